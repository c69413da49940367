/- AxSame: values and objects, compared. -/
import Derived.Test.YtnkhpfincnfloaaGreatDoorAxA
import Derived.Lib.Bytealg
import Derived.RangeFuncRecord
import Derived.Scope
import Derived.LoopNIn
import Derived.Orders
import Derived.OrdersIn
set_option linter.unusedSimpArgs false
set_option linter.unusedVariables false
namespace Go.Ax
mutual
def sameV:AV→AV→Bool
 |.junk,.junk=>true
 |.bool a,.bool b=>a==b
 |.int k a,.int k' b=>decide (k=k')&&decide (a=b)
 |.str a,.str b=>decide (a=b)
 |.nilptr,.nilptr=>true
 |.nilslice,.nilslice=>true
 |.nilmap,.nilmap=>true
 |.nilfunc,.nilfunc=>true
 |.nilifc,.nilifc=>true
 |.ptr a b c,.ptr d e f=>decide (a=d)&&(decide (b=e)&&decide (c=f))
 |.iptr a,.iptr b=>sameL a b
 |.slice a b c d,.slice e f g h=>decide (a=e)&&(decide (b=f)&&(decide (c=g)&&decide (d=h)))
 |.islice r c,.islice s d=>sameR r s&&decide (c=d)
 |.map a,.map b=>decide (a=b)
 |.imap a b c d,.imap e f g h=>sameL a e&&(sameL b f&&(decide (c=g)&&decide (d=h)))
 |.iset a,.iset b=>decide (a=b)
 |.yfn a,.yfn b=>decide (a=b)
 |.func f a b,.func g c d=>decide (f=g)&&(sameL a c&&sameL b d)
 |.iface t x,.iface u y=>decide (t=u)&&sameV x y
 |.agg a,.agg b=>sameL a b
 |.tuple a,.tuple b=>sameL a b
 |_,_=>false
def sameL:List AV→List AV→Bool
 | [],[]=>true
 |x::xs,y::ys=>sameV x y&&sameL xs ys
 |_,_=>false
def sameR:List (List AV)→List (List AV)→Bool
 | [],[]=>true
 |x::xs,y::ys=>sameL x y&&sameR xs ys
 |_,_=>false
end
mutual
theorem sameV_eq:∀(a b:AV),sameV a b=true→a=b
 |a,b,h=>by
  cases a<;>cases b<;>simp only[sameV,Bool.and_eq_true,decide_eq_true_eq,beq_iff_eq,Bool.false_eq_true]at h
  case junk.junk=>rfl
  case bool.bool=>rw[h]
  case int.int=>rw[h.1,h.2]
  case str.str=>rw[h]
  case nilptr.nilptr=>rfl
  case nilslice.nilslice=>rfl
  case nilmap.nilmap=>rfl
  case nilfunc.nilfunc=>rfl
  case nilifc.nilifc=>rfl
  case ptr.ptr=>rw[h.1,h.2.1,h.2.2]
  case iptr.iptr=>rw[sameL_eq _ _ h]
  case slice.slice=>rw[h.1,h.2.1,h.2.2.1,h.2.2.2]
  case islice.islice=>rw[sameR_eq _ _ h.1,h.2]
  case map.map=>rw[h]
  case imap.imap=>rw[sameL_eq _ _ h.1,sameL_eq _ _ h.2.1,h.2.2.1,h.2.2.2]
  case iset.iset=>rw[h]
  case yfn.yfn=>rw[h]
  case func.func=>rw[h.1,sameL_eq _ _ h.2.1,sameL_eq _ _ h.2.2]
  case iface.iface=>rw[h.1,sameV_eq _ _ h.2]
  case agg.agg=>rw[sameL_eq _ _ h]
  case tuple.tuple=>rw[sameL_eq _ _ h]
theorem sameL_eq:∀(a b:List AV),sameL a b=true→a=b
 | [],[],_=>rfl
 |x::xs,y::ys,h=>by simp only[sameL,Bool.and_eq_true]at h;rw[sameV_eq x y h.1,sameL_eq xs ys h.2]
 | [],_::_,h=>by simp[sameL]at h
 |_::_,[],h=>by simp[sameL]at h
theorem sameR_eq:∀(a b:List (List AV)),sameR a b=true→a=b
 | [],[],_=>rfl
 |x::xs,y::ys,h=>by simp only[sameR,Bool.and_eq_true]at h;rw[sameL_eq x y h.1,sameR_eq xs ys h.2]
 | [],_::_,h=>by simp[sameR]at h
 |_::_,[],h=>by simp[sameR]at h
end
mutual
theorem sameV_self:∀(a:AV),sameV a a=true
 |.junk|.bool _|.int _ _|.str _|.nilptr|.nilslice|.nilmap|.nilfunc|.nilifc|.ptr _ _ _|.slice _ _ _ _|.map _|.yfn _=>by simp[sameV]
 |.iptr a=>by simp only[sameV];exact sameL_self a
 |.islice r c=>by simp only[sameV,sameR_self r,decide_true,Bool.and_self]
 |.imap a b c d=>by simp only[sameV,sameL_self a,sameL_self b,decide_true,Bool.and_self]
 |.iset a=>by simp only[sameV,decide_true]
 |.func f a b=>by simp only[sameV,sameL_self a,sameL_self b,decide_true,Bool.and_self]
 |.iface t x=>by simp only[sameV,sameV_self x,decide_true,Bool.and_self]
 |.agg a=>by simp only[sameV];exact sameL_self a
 |.tuple a=>by simp only[sameV];exact sameL_self a
theorem sameL_self:∀(a:List AV),sameL a a=true
 | []=>rfl
 |x::xs=>by simp only[sameL,sameV_self x,sameL_self xs,Bool.and_self]
theorem sameR_self:∀(a:List (List AV)),sameR a a=true
 | []=>rfl
 |x::xs=>by simp only[sameR,sameL_self x,sameR_self xs,Bool.and_self]
end
def sameF:List (Nat×AV)→List (Nat×AV)→Bool
 | [],[]=>true
 |(s,v)::F,(t,u)::G=>Nat.beq s t&&(sameV v u&&sameF F G)
 |_,_=>false
theorem sameF_eq:∀{F G:List (Nat×AV)},sameF F G=true→F=G
 | [],[],_=>rfl
 |(s,v)::F,(t,u)::G,h=>by simp only[sameF,Bool.and_eq_true,Nat.beq_eq]at h;rw[h.1,sameV_eq _ _ h.2.1,sameF_eq h.2.2]
 | [],_::_,h=>by simp[sameF]at h
 |_::_,[],h=>by simp[sameF]at h
theorem sameF_self:∀F:List (Nat×AV),sameF F F=true
 | []=>rfl
 |(s,v)::F=>by simp only[sameF,sameV_self,sameF_self F,Nat.beq_refl,Bool.and_self]
def sameO:Option AObj→Option AObj→Bool
 |none,none=>true
 |some (.row k r),some (.row l s)=>decide (k=l)&&sameR r s
 |some (.map a b c d),some (.map e f g h)=>sameL a e&&(sameL b f&&(decide (c=g)&&decide (d=h)))
 |some (.siter s p),some (.siter t q)=>decide (s=t)&&decide (p=q)
 |some (.uset a),some (.uset b)=>decide (a=b)
 |some (.miter a b c),some (.miter d e f)=>decide (a=d)&&(decide (b=e)&&decide (c=f))
 |some (.yloop a b c),some (.yloop d e f)=>decide (a=d)&&(sameF b e&&decide (c=f))
 |some (.trow a b c r),some (.trow d e f s)=>decide (a=d)&&(decide (b=e)&&(decide (c=f)&&sameR r s))
 |_,_=>false
theorem sameO_eq(a b:Option AObj)(h:sameO a b=true):a=b:=by
 unfold sameO at h;split at h
 ·rfl
 ·simp only[Bool.and_eq_true,decide_eq_true_eq]at h;rw[h.1,sameR_eq _ _ h.2]
 ·simp only[Bool.and_eq_true,decide_eq_true_eq]at h;rw[sameL_eq _ _ h.1,sameL_eq _ _ h.2.1,h.2.2.1,h.2.2.2]
 ·simp only[Bool.and_eq_true,decide_eq_true_eq]at h;rw[h.1,h.2]
 ·simp only[decide_eq_true_eq]at h;rw[h]
 ·simp only[Bool.and_eq_true,decide_eq_true_eq]at h;rw[h.1,h.2.1,h.2.2]
 ·simp only[Bool.and_eq_true,decide_eq_true_eq]at h;rw[h.1,sameF_eq h.2.1,h.2.2]
 ·simp only[Bool.and_eq_true,decide_eq_true_eq]at h;rw[h.1,h.2.1,h.2.2.1,sameR_eq _ _ h.2.2.2]
 ·cases h
@[go_sem] theorem sameO_self(a:Option AObj):sameO a a=true:=by
 cases a with
 |none=>rfl
 |some o=>cases o with
  |row k r=>simp only[sameO,sameR_self,decide_true,Bool.and_self]
  |map a b c d=>simp only[sameO,sameL_self,decide_true,Bool.and_self]
  |siter s p=>simp only[sameO,decide_true,Bool.and_self]
  |uset a=>simp only[sameO,decide_true]
  |miter a b c=>simp only[sameO,decide_true,Bool.and_self]
  |yloop a b c=>simp only[sameO,sameF_self,decide_true,Bool.and_self]
  |trow a b c r=>simp only[sameO,sameR_self,decide_true,Bool.and_self]
end Go.Ax
/- AxRun: the evaluator: operations in a row, statements, calls. Definitions only. -/
namespace Go.Ax
def HeapF(H:Heap):FHeap:=λb=>(H[b]?).join
def effH(H:Heap):Eff→Heap
 |.none=>H
 |.new o=>H++[some o]
 |.set b o=>H.set b (some o)
 |.kill b o=>H.set b none++[some o]
/-! ### what a value refers to -/
mutual
def refs:AV→List Nat
 |.ptr b _ _=>[b]
 |.slice b _ _ _=>[b]
 |.map b=>[b]
 |.yfn b=>[b]
 |.func _ fs cs=>refsL fs++refsL cs
 |.iface _ x=>refs x
 |.agg cs=>refsL cs
 |.tuple cs=>refsL cs
 |.junk|.bool _|.int ..|.str _|.nilptr|.nilslice|.nilmap|.nilfunc|.nilifc|.iptr _|.islice ..|.imap ..|.iset _=>[]
def refsL:List AV→List Nat
 | []=>[]
 |v::vs=>refs v++refsL vs
end
def refsF:List (Nat×AV)→List Nat
 | []=>[]
 |(_,v)::r=>refs v++refsF r
def refsO:Option AObj→List Nat
 |some (.yloop _ F _)=>refsF F
 |some (.trow _ _ _ rows)=>rows.flatMap refsL
 |some (.row _ rows)=>rows.flatMap refsL
 |some (.map ks vs _ _)=>refsL ks++refsL vs
 |_=>[]
def containsN:List Nat→Nat→Bool
 | [],_=>false
 |a::r,x=>bif Nat.beq a x then true else containsN r x
theorem containsN_iff{l:List Nat}{x:Nat}:containsN l x=true↔x∈l:=by
 induction l with
 |nil=>simp[containsN]
 |cons a r ih=>
  simp only[containsN,nbeq,cond_eq_ite,List.mem_cons];by_cases h:a=x
  ·simp[h]
  ·simp only[beq_eq_false_iff_ne.2 h,Bool.false_eq_true,if_false,ih];exact⟨.inr,λh'=>h'.resolve_left (λe=>h e.symm)⟩
def reach(H:Heap):Nat→List Nat→List Nat→List Nat
 |0,_,acc=>acc.reverse
 |_+1,[],acc=>acc.reverse
 |n+1,b::todo,acc=>bif containsN acc b then reach H n todo acc else reach H n (refsO (HeapF H b)++todo) (b::acc)
def reachFuel:Nat:=1000000
/-! ### renaming a heap -/
def piOf(σ:List Nat):Nat→Option Nat:=λb=>σ.idxOf? b
def smallH(H:Heap)(σ:List Nat)(π:Nat→Option Nat):Heap:=σ.map λb=>(HeapF H b).map (renObj π)
def backOf(σ:List Nat)(n:Nat):Nat→Option Nat:=λj=>bif Nat.blt j σ.length then σ[j]? else some (n+(j-σ.length))
def putBack(σ:List Nat)(n:Nat)(H1:Heap):Nat→Heap→Heap
 |_,[]=>[]
 |b,o::r=>(match σ.idxOf? b with
  |some j=>(HeapF H1 j).map (renObj (backOf σ n))
  |none=>o)::putBack σ n H1 (b+1) r
def nodupB:List Nat→Bool
 | []=>true
 |b::r=>!(containsN r b)&&nodupB r
def callLoc(run:List AV→Heap→Option (AV×Heap))(args:List AV)(H:Heap):Option (AV×Heap×List Nat):=
 let σ:=reach H reachFuel (refsL args) []
 bif nodupB σ&&σ.all (λb=>Nat.blt b H.length)then
  match run (args.map (ren (piOf σ))) (smallH H σ (piOf σ))with
  |some (v,H1)=>some (ren (backOf σ H.length) v,putBack σ H.length H1 0 H++(H1.drop σ.length).map (Option.map (renObj (backOf σ H.length))),σ)
  |none=>none
 else none
/-! ### lent calls -/
mutual
def noI:AV→Bool
 |.iptr _=>false
 |.islice _ _=>false
 |.imap _ _ _ _=>false
 |.iset _=>false
 |.func _ fs cs=>noIL fs&&noIL cs
 |.iface _ x=>noI x
 |.agg cs=>noIL cs
 |.tuple cs=>noIL cs
 |.junk|.bool _|.int ..|.str _|.nilptr|.nilslice|.nilmap|.nilfunc|.nilifc|.ptr _ _ _|.slice _ _ _ _|.map _|.yfn _=>true
def noIL:List AV→Bool
 | []=>true
 |v::vs=>noI v&&noIL vs
end
def noIO:AObj→Bool
 |.row _ rows=>rows.all noIL
 |.map ks vs _ _=>noIL ks&&noIL vs
 |.siter _ _=>true
 |.uset _=>true
 |_=>false
def cleanF(H:Heap):FHeap:=λb=>match HeapF H b with
 |some o=>bif noIO o then some o else none
 |none=>none
def lendLoc(run:List AV→Heap→Option (AV×Heap))(args:List AV)(H:Heap):Option (AV×Heap×List Nat):=
 match frzL 0 false (frzD (HeapF H) 0 12) args with
 |some args'=>match run args' []with
  |some (v,H1)=>bif noI v then match frzV 0 false (frzD (cleanF H1) 0 12) v with
   |some v'=>some (v',H,List.range H.length)
   |none=>none
   else none
  |none=>none
 |none=>none
def aext(args:List AV):Option AV:=
 match args with
 | [.str s,.int .u8 c]=>some (.int .i64 (Lib.indexByte s c.toNat.toUInt8))
 |_=>none
def callV(E:Env)(draw:Bool)(call:FuncId→List AV→Heap→Option (AV×Heap))(f:AV)(args:List AV)(H:Heap):Option (AV×Heap×List Nat):=
 match f with
 |.func (.func g) fs cs=>bif E.ext g then(bif (E.fn g).isSome then lendLoc (call g) (fs++args++cs) H else match aext (fs++args++cs)with
  |some v=>some (v,H,[])
  |none=>none)
  else bif (E.fn g).isSome then
   match callLoc (call g) (fs++args++cs) H with
   |some (v,H',σ)=>bif draw && !(Nat.ble H.length H'.length)then none else some (v,H',σ)
   |none=>none
  else none
 |.yfn b=>match callLoc (call yId) (.yfn b::args) H with
  |some (v,H',σ)=>bif draw && !(Nat.ble H.length H'.length)then none else some (v,H',σ)
  |none=>none
 |_=>none
/-! ### operations in a row -/
structure LogE where
 needs:List Nat
 keys:List Nat
def Eff.keys(n:Nat):Eff→List Nat
 |.none=>[]
 |.new _=>[n]
 |.set b _=>[b]
 |.kill b _=>[b,n]
def Eff.fits(n:Nat):Eff→Bool
 |.set b _=>Nat.blt b n
 |.kill b _=>Nat.blt b n
 |_=>true
def topRef:AV→List Nat
 |.ptr b _ _=>[b]
 |.slice b _ _ _=>[b]
 |.map b=>[b]
 |_=>[]
def aneeds(op:Op)(v:Operand→AV):List Nat:=
 match op with
 |.load _ a=>topRef (v a)
 |.store _ a _=>topRef (v a)
 |.convert _ _ x=>topRef (v x)
 |.slice _ x _ _ _=>topRef (v x)
 |.indexAddr _ x _=>topRef (v x)
 |.lookup _ m _ _=>topRef (v m)
 |.mapUpdate _ m _ _=>topRef (v m)
 |.insert _ m _ _=>topRef (v m)
 |.mapEntry _ m _=>topRef (v m)
 |.entryStore _ m _ _=>topRef (v m)
 |.next it _=>topRef (v it)
 |.entry it=>topRef (v it)
 |.call { callee:=.builtin _,args,.. }=>args.toList.flatMap λx=>topRef (v x)
 |_=>[]
def chg(H H':Heap):List Nat→List Nat
 | []=>[]
 |b::r=>bif sameO (HeapF H b) (HeapF H' b)then chg H H' r else b::chg H H' r
def chgC(E:Env)(f:AV)(H H':Heap)(σ:List Nat):List Nat:=match f with
 |.func (.func g) _ _=>bif E.ro g then chg H H' σ else σ
 |_=>σ
theorem chg_same{H H':Heap}{b:Nat}:∀{σ:List Nat},b∈σ→b∉chg H H' σ→HeapF H b=HeapF H' b
 | [],h,_=>by cases h
 |c::r,h,hn=>by
  rw[chg,cond_eq_ite]at hn;split at hn
  ·rename_i hs;rcases List.mem_cons.1 h with rfl|h
   ·exact sameO_eq _ _ hs
   ·exact chg_same h hn
  ·rcases List.mem_cons.1 h with rfl|h
   ·exact absurd (List.mem_cons_self ..) hn
   ·exact chg_same h (λh'=>hn (List.mem_cons_of_mem _ h'))
theorem chgC_same{E:Env}{g:FuncId}{fs cs:List AV}{H H':Heap}{σ:List Nat}{b:Nat}(hb:b∈σ)(hn:b∉chgC E (.func (.func g) fs cs) H H' σ):HeapF H b=HeapF H' b:=by
 have hn:b∉(bif E.ro g then chg H H' σ else σ):=hn;cases h:E.ro g with
 |false=>rw[h,cond_false]at hn;exact absurd hb hn
 |true=>rw[h,cond_true]at hn;exact chg_same hb hn
def keysC(k σ:List Nat)(n n':Nat):List Nat:=bif Nat.beq n' n then k else σ++List.range' n (n'-n)
def stepOp(E:Env)(draw:Bool)(call:FuncId→List AV→Heap→Option (AV×Heap))(F:Frm)(H:Heap)(op:Op):Option (AV×Heap×LogE):=
 match op with
 |.call { callee:=.value f,args,.. }=>match callV E draw call (opv E F f) (args.toList.map (opv E F)) H with
  |some (v,H',σ)=>some (v,H',⟨σ,keysC (chgC E (opv E F f) H H' σ) σ H.length H'.length⟩)
  |none=>none
 |op=>match aop E H.length (HeapF H) op (opv E F)with
  |some (v,e)=>bif e.fits H.length then some (v,effH H e,⟨aneeds op (opv E F),e.keys H.length⟩)else none
  |none=>none
def dstOk(N:Nat):Option Tmp→Bool
 |none=>true
 |some d=>Nat.blt d N
def meetsB(a b:List Nat):Bool:=a.any λx=>containsN b x
def LogE.clash(x y:LogE):Bool:=meetsB x.keys y.needs||meetsB x.keys y.keys||meetsB x.needs y.keys
def isBefore(all:List Oper)(i:Nat):Nat→Nat→Bool
 |0,_=>false
 |n+1,j=>match all[j]? with
  |some o=>o.after.toList.any λe=>Region.binds .any e&&(e.on==i||isBefore all i n e.on)
  |none=>false
def edgeOf(all:List Oper)(i j:Nat):Bool:=
 match all[j]? with
 |some o=>o.after.toList.any λe=>Region.binds .any e&&e.on==i
 |none=>false
def ordered(all:List Oper)(i j:Nat):Bool:=edgeOf all i j||isBefore all i all.length j
def logOk.logRow (all:List Oper) (j:Nat) (y:LogE):Nat→List LogE→Bool
 |_,[]=>true
 |0,_::_=>false
 |i+1,x::rest=>(!(x.clash y)||ordered all i j)&&logOk.logRow all j y i rest
def logOk(all:List Oper):Nat→List LogE→Bool
 |_,[]=>true
 |0,_::_=>false
 |j+1,y::rest=>logOk.logRow all j y j rest&&logOk all j rest

def guardSlot(all:List Oper)(j:Nat):Option Nat:=(all[j]?).bind (·.dst)
def runOps(E:Env)(draw:Bool)(N:Nat)(call:FuncId→List AV→Heap→Option (AV×Heap))(all:List Oper){R:Type} :
 List Oper→List LogE→Frm→Heap→(Frm→Heap→Option R)→Option R
 | [],log,F,H,k=>bif !draw||logOk all log.length log then k F H else none
 |o::rest,log,F,H,k=>
  bif dstOk N o.dst then
   match o.guard with
   |none=>match stepOp E draw call F H o.op with
    |some (v,H',l)=>runOps E draw N call all rest (l::log) (setF F o.dst v) H' k
    |none=>none
   |some (j,want)=>match guardSlot all j with
    |none=>none
    |some d=>match getF F d with
     |.bool b=>bif b then
      (bif want then match stepOp E draw call (setF F (some d) (.bool true)) H o.op with
       |some (v,H',l)=>runOps E draw N call all rest (l::log) (setF (setF F (some d) (.bool true)) o.dst v) H' k
       |none=>none
      else runOps E draw N call all rest (⟨[],[]⟩::log) (setF (setF F (some d) (.bool true)) o.dst (.tuple [])) H k)
      else
       (bif want then runOps E draw N call all rest (⟨[],[]⟩::log) (setF (setF F (some d) (.bool false)) o.dst (.tuple [])) H k
       else match stepOp E draw call (setF F (some d) (.bool false)) H o.op with
        |some (v,H',l)=>runOps E draw N call all rest (l::log) (setF (setF F (some d) (.bool false)) o.dst v) H' k
        |none=>none)
     |.tuple []=>runOps E draw N call all rest (⟨[],[]⟩::log) (setF F o.dst (.tuple [])) H k
     |_=>none
  else none
/-! ### statements -/
inductive AExit where
 |normal
 |exit (id:Nat)
 |ret
def keepF(keep:List Nat)(F:Frm):Frm:=keep.map λs=>(s,getF F s)
def gcIds(m0:Nat)(F:Frm)(H:Heap):List Nat:=(reach H reachFuel ((H.take m0).flatMap refsO++refsL (F.map (·.2))) []).filter λb=>Nat.ble m0 b
def gcPi(m0:Nat)(σ:List Nat):Nat→Option Nat:=λb=>bif Nat.blt b m0 then some b else(σ.idxOf? b).map (m0 + ·)
def renF(π:Nat→Option Nat)(F:Frm):Frm:=F.map λx=>(x.1,ren π x.2)
def gcH(m0:Nat)(σ:List Nat)(H:Heap):Heap:=(H.take m0).map (Option.map (renObj (gcPi m0 σ)))++smallH H σ (gcPi m0 σ)
def loopN(m0:Nat)(keep:List Nat){R:Type}(body:Frm→Heap→(AExit→Frm→Heap→Option R)→Option R):Nat→Frm→Heap→(AExit→Frm→Heap→Option R)→Option R
 |0,_,_,_=>none
 |n+1,F,H,k=>
  let F1:=keepF keep F
  let σ:=gcIds m0 F1 H
  bif nodupB σ&&σ.all (λb=>Nat.ble m0 b)&&Nat.ble m0 H.length then
   body (renF (gcPi m0 σ) F1) (gcH m0 σ H) λe F' H'=>match e with
    |.normal=>loopN m0 keep body n F' H' k
    |e=>k e F' H'
  else none
/-! ### ranging over a set -/
def gcD(m0:Nat)(keep:List Nat)(F:Frm)(H:Heap):Option (Frm×Heap):=
 let F1:=keepF keep F
 let σ:=gcIds m0 F1 H
 bif nodupB σ&&σ.all (λb=>Nat.ble m0 b)&&Nat.ble m0 H.length then some (renF (gcPi m0 σ) F1,gcH m0 σ H)else none
def nxOf:List Oper→Option (Nat×Nat×List Oper)
 | []=>none
 |o::rest=>match o.op,o.dst,o.guard with
  |.next (.tmp it) false,some nx,none=>some (it,nx,rest)
  |_,_,_=>none
def nxLoop:Code→Option Nat
 |.seq (.region _ ops false) _=>(nxOf ops.toList).map (·.1)
 |_=>none
def nextM(F:Frm)(H:Heap)(it:Nat):Option (AV×Heap):=match getF F it with
 |.ptr b 0 0=>match HeapF H b with
  |some (.miter ks vis (some (some i)))=>some (.tuple [.bool true,.int .i64 i,.bool true],H.set b (some (.miter ks (vis++[i]) none)))
  |some (.miter ks vis (some none))=>some (.tuple [.bool false],H.set b (some (.miter ks vis none)))
  |_=>none
 |_=>none
abbrev R3:=AExit×Frm×Heap
def armH(ks acc:List Int)(a:Option Int)(F:Frm)(H:Heap)(it:Nat):Option Heap:=match getF F it with
 |.ptr b 0 0=>match HeapF H b with
  |some (.miter ks' vis _)=>bif decide (ks'=ks)&&decide (vis=acc)then some (H.set b (some (.miter ks vis (some a))))else none
  |_=>none
 |_=>none
def dropIt(F:Frm)(H:Heap)(it:Nat):Heap:=match getF F it with
 |.ptr b _ _=>H.set b none
 |_=>H
def roundM(m0 it:Nat)(keep:List Nat)(ks acc:List Int)(body:Frm→Heap→(AExit→Frm→Heap→Option R3)→Option R3)(a:Option Int)(F:Frm)(H:Heap):Option R3:=
 match gcD m0 keep F H with
 |some (F1,H1)=>match armH ks acc a F1 H1 it with
  |some H2=>body F1 H2 λe F' H'=>some (e,F',H')
  |none=>none
 |none=>none
def orderM(m0 it:Nat)(keep:List Nat)(ks:List Int)(body:Frm→Heap→(AExit→Frm→Heap→Option R3)→Option R3):List Int→List Int→Frm→Heap→Option R3
 |acc,[],F,H=>match roundM m0 it keep ks acc body none F H with
  |some (.normal,_,_)=>none
  |some (e,F',H')=>some (e,F',dropIt F' H' it)
  |none=>none
 |acc,i::o,F,H=>match roundM m0 it keep ks acc body (some i) F H with
  |some (.normal,F',H')=>orderM m0 it keep ks body (acc++[i]) o F' H'
  |_=>none
def setOf(m0 it:Nat)(keep:List Nat)(F:Frm)(H:Heap):Option (List Int):=match gcD m0 keep F H with
 |some (F1,H1)=>match getF F1 it with
  |.ptr b 0 0=>match HeapF H1 b with
   |some (.miter ks [] _)=>some ks
   |_=>none
  |_=>none
 |none=>none
def insEv(x:Int):List Int→List (List Int)
 | []=>[[x]]
 |y::l=>(x::y::l)::(insEv x l).map (y :: ·)
def permsZ:List Int→List (List Int)
 | []=>[[]]
 |x::l=>(permsZ l).flatMap (insEv x)
def sameE:AExit→AExit→Bool
 |.normal,.normal=>true
 |.ret,.ret=>true
 |.exit a,.exit b=>Nat.beq a b
 |_,_=>false
def sameH:Heap→Heap→Bool
 | [],[]=>true
 |a::H,b::J=>sameO a b&&sameH H J
 |_,_=>false
def same3(x:Option R3)(r:R3):Bool:=match x with
 |some (e,F,H)=>sameE e r.1&&(sameF F r.2.1&&sameH H r.2.2)
 |none=>false
def mloop(m0 it:Nat)(keep:List Nat){R:Type}(body:Frm→Heap→(AExit→Frm→Heap→Option R3)→Option R3)(F:Frm)(H:Heap)(k:AExit→Frm→Heap→Option R):Option R:=
 match setOf m0 it keep F H with
 |some ks=>match(permsZ ks).map λo=>orderM m0 it keep ks body [] o F H with
  |some r::rs=>bif rs.all (λx=>same3 x r)then k r.1 r.2.1 r.2.2 else none
  |_=>none
 |none=>none
def frzB(keep:List Nat):Bool:=keep.any λs=>Nat.ble 1000000 s&&Nat.blt s 1001000
def frzJ:List Nat→Nat
 | []=>0
 |s::r=>bif Nat.ble 1000000 s&&Nat.blt s 1001000 then s-1000000 else frzJ r
def frzS(m:Nat)(H:Heap)(v:AV):AV:=match frzV m true (frzD (HeapF H) m 12) v with
 |some v'=>v'
 |none=>.junk
def frzF(m:Nat)(H:Heap)(F:Frm):Frm:=F.map λx=>(x.1,frzS m H x.2)
def frzH(m:Nat)(H:Heap):Heap:=(H.take m).map (Option.map (deepO m (frzD (HeapF H) m 12)))
def yOf:List Nat→Option Nat
 | []=>none
 |s::r=>bif Nat.ble 3000000 s then some (s-3000000)else yOf r
def rfs(N f:Nat):Nat→Code→List (Nat×RInfo)
 |cur,.rangeFunc _ ps asg body=>[(cur,⟨N,ps.toList,asg,body,f⟩)]
 |cur,.seq a b=>rfs N f cur a++rfs N f cur b
 |cur,.cond _ a b=>rfs N f cur a++rfs N f cur b
 |_,.block id b=>rfs N f id b
 |cur,.loop b=>rfs N f cur b
 |cur,.scope b=>rfs N f cur b
 |_,_=>[]
def lookRF(cur:Nat):List (Nat×RInfo)→Option RInfo
 | []=>none
 |(c,ri)::r=>bif Nat.beq c cur then some ri else lookRF cur r
theorem rfs_none{N f:Nat}:∀(c:Code) (cur:Nat),noRF c=true→rfs N f cur c=[]
 |.rangeFunc _ _ _ _,cur,h=>by simp[noRF]at h
 |.seq a b,cur,h=>by simp only[noRF,Bool.and_eq_true]at h;simp[rfs,rfs_none a cur h.1,rfs_none b cur h.2]
 |.cond _ a b,cur,h=>by simp only[noRF,Bool.and_eq_true]at h;simp[rfs,rfs_none a cur h.1,rfs_none b cur h.2]
 |.block id b,cur,h=>by simp only[rfs];exact rfs_none b id h
 |.loop b,cur,h=>by simp only[rfs];exact rfs_none b cur h
 |.scope b,cur,h=>by simp only[rfs];exact rfs_none b cur h
 |.skip,_,_=>rfl
 |.label _,_,_=>rfl
 |.region _ _ _,_,_=>rfl
 |.exit _,_,_=>rfl
 |.ret,_,_=>rfl
 |.goto _,_,_=>rfl
 |.refuse _,_,_=>rfl
def RFOk(E:Env)(f N:Nat)(keep:Nat→List Nat)(ro:Option Nat)(cur:Nat)(c:Code):Prop:=(ro.isSome=true→noRF c=true)∧∀x∈rfs N f cur c,∃y,yOf (keep x.1)=some y∧E.G.rnd y=some x.2
section
variable {E:Env}{f N:Nat}{keep:Nat→List Nat}{ro:Option Nat}{cur:Nat}{a b:Code}
theorem RFOk.seq1(h:RFOk E f N keep ro cur (.seq a b)):RFOk E f N keep ro cur a:=⟨λhr=>by have:=h.1 hr;simp only[noRF,Bool.and_eq_true]at this;exact this.1,λx hx=>h.2 x (by simp[rfs,hx])⟩
theorem RFOk.seq2(h:RFOk E f N keep ro cur (.seq a b)):RFOk E f N keep ro cur b:=⟨λhr=>by have:=h.1 hr;simp only[noRF,Bool.and_eq_true]at this;exact this.2,λx hx=>h.2 x (by simp[rfs,hx])⟩
theorem RFOk.cond1{c:Operand}(h:RFOk E f N keep ro cur (.cond c a b)):RFOk E f N keep ro cur a:=⟨λhr=>by have:=h.1 hr;simp only[noRF,Bool.and_eq_true]at this;exact this.1,λx hx=>h.2 x (by simp[rfs,hx])⟩
theorem RFOk.cond2{c:Operand}(h:RFOk E f N keep ro cur (.cond c a b)):RFOk E f N keep ro cur b:=⟨λhr=>by have:=h.1 hr;simp only[noRF,Bool.and_eq_true]at this;exact this.2,λx hx=>h.2 x (by simp[rfs,hx])⟩
theorem RFOk.block{id:Nat}(h:RFOk E f N keep ro cur (.block id b)):RFOk E f N keep ro id b:=⟨h.1,h.2⟩
theorem RFOk.loop(h:RFOk E f N keep ro cur (.loop b)):RFOk E f N keep ro cur b:=⟨h.1,h.2⟩
theorem RFOk.scope(h:RFOk E f N keep ro cur (.scope b)):RFOk E f N keep ro cur b:=⟨h.1,h.2⟩
end
def ySet(H:Heap)(b:Nat)(old new:YSt):Option Heap:=match HeapF H b with
 |some (.yloop y F st)=>bif decide (st=old)then some (H.set b (some (.yloop y F new)))else none
 |_=>none
def yGet(H:Heap)(b:Nat):Option YSt:=match HeapF H b with
 |some (.yloop _ _ st)=>some st
 |_=>none
def aevC(E:Env)(m0 N:Nat)(keep:Nat→List Nat)(call:FuncId→List AV→Heap→Option (AV×Heap))(lf:Nat) :
 Nat→Code→{R:Type}→Frm→Heap→(AExit→Frm→Heap→Option R)→Option R
 |_,.skip,_,F,H,k=>k .normal F H
 |_,.label _,_,F,H,k=>k .normal F H
 |_,.region _ ops draw,_,F,H,k=>match nxOf ops.toList with
  |none=>runOps E draw N call ops.toList ops.toList [] F H λF' H'=>k .normal F' H'
  |some (it,nx,rest)=>bif draw || !Nat.blt nx N then none else match nextM F H it with
   |some (v,H')=>runOps E false N call ops.toList rest [⟨[],[]⟩] (setF F (some nx) v) H' λF' H'=>k .normal F' H'
   |none=>none
 |cur,.seq a b,_,F,H,k=>aevC E m0 N keep call lf cur a F H λe F' H'=>match e with
  |.normal=>aevC E m0 N keep call lf cur b F' H' k
  |e=>k e F' H'
 |cur,.cond c x y,_,F,H,k=>match opv E F c with
  |.bool t=>bif t then aevC E m0 N keep call lf cur x F H k else aevC E m0 N keep call lf cur y F H k
  |_=>none
 |_,.block id b,_,F,H,k=>aevC E m0 N keep call lf id b F H λe F' H'=>match e with
  |.exit id'=>bif id'==id then k .normal F' H' else k (.exit id') F' H'
  |e=>k e F' H'
 |cur,.loop b,_,F,H,k=>match nxLoop b with
  |none=>loopN m0 (keep cur) (λF H k=>aevC E m0 N keep call lf cur b F H k) lf F H λe F' H'=>bif frzB (keep cur)then k e (frzF (m0+frzJ (keep cur)) H' F') (frzH (m0+frzJ (keep cur)) H')else k e F' H'
  |some it=>mloop m0 it (keep cur) (λF H k=>aevC E m0 N keep call lf cur b F H k) F H k
 |cur,.rangeFunc f _ _ _,_,F,H,k=>match opv E F f,yOf (keep cur)with
  |.func (.func g) fs cs,some y=>bif (E.fn g).isSome && !(E.ext g)then
   match callLoc (call g) (fs++[.yfn H.length]++cs) (H++[some (.yloop y (keepF (keep cur) F) .ready)])with
   |some (_,H2,_)=>match yGet H2 H.length with
    |some .ready=>k .normal F (H2.set H.length none)
    |some (.done none)=>k .ret F (H2.set H.length none)
    |some (.done (some id))=>k (.exit id) F (H2.set H.length none)
    |_=>none
   |none=>none
   else none
  |_,_=>none
 |cur,.scope b,_,F,H,k=>aevC E m0 N keep call lf cur b F H k
 |_,.exit id,_,F,H,k=>k (.exit id) F H
 |_,.ret,_,F,H,k=>k .ret F H
 |_,_,_,_,_,_=>none
/-! ### functions -/
def aresults(E:Env)(F:Frm)(H:Heap):List ResultVar→Option (List AV)
 | []=>some []
 |.tmp t::r=>match aresults E F H r with
  |some vs=>some (getF F t::vs)
  |none=>none
 |.cell a t::r=>match aload E (HeapF H) t (getF F a),aresults E F H r with
  |some v,some vs=>some (v::vs)
  |_,_=>none
def oneOf:List AV→AV
 | [v]=>v
 |vs=>.tuple vs
def entryF:Nat→List AV→Frm
 |_,[]=>[]
 |i,v::vs=>(i,v)::entryF (i+1) vs
def without(h:FHeap)(b:Nat):FHeap:=λx=>bif Nat.beq x b then none else h x
def melt(m:Nat)(v:AV)(H:Heap):Option (AV×Heap):=match v with
 |.ptr b i o=>bif Nat.ble m b then(match HeapF H b with
  |some (.row k rows)=>match frzT m (frzD (without (HeapF H) b) m 12) rows with
   |some rows'=>some (.ptr m i o,(H.take m).map (Option.map (renObj (piBelow m)))++[some (.row k rows')])
   |none=>none
  |_=>none)else none
 |.slice b off len cap=>some (.slice b off len cap,H)
 |.agg cs=>some (.agg cs,H)
 |.tuple cs=>some (.tuple cs,H)
 |.map b=>some (.map b,H)
 |.func f fs cs=>some (.func f fs cs,H)
 |.nilslice=>some (.nilslice,(H.take m).map (Option.map (renObj (piBelow m))))
 |_=>none
def finish(thaw:Bool)(m:Nat)(v:AV)(H:Heap):Option (AV×Heap):=
 bif thaw then(bif Nat.beq m 0 then melt m v H else some (v,H))else match frzV m true (frzD (HeapF H) m 12) v with
  |some v'=>some (v',(H.take m).map (Option.map (renObj (piBelow m))))
  |none=>some (v,H)
def endV(E:Env)(g:FuncId)(m:Nat)(v:AV)(H:Heap):Option (AV×Heap):=bif E.raw g then some (v,H)else finish (E.thaw g) m v H
def setsF:Frm→List Nat→List AV→Frm
 |F,t::ts,v::vs=>setsF (setF F (some t) v) ts vs
 |F,_,_=>F
def runRound(E:Env)(call:FuncId→List AV→Heap→Option (AV×Heap))(lf:Nat)(args:List AV)(H:Heap):Option (AV×Heap):=match args with
 |.yfn b::vs=>match HeapF H b with
  |some (.yloop y F .ready)=>match E.G.rnd y with
   |some ri=>bif Nat.beq vs.length ri.ps.length&&ri.ps.all (Nat.blt · ri.N)then
    aevC E H.length ri.N (E.keep ri.fid) call lf 0 ri.asg (setsF F ri.ps vs) H λe F' H'=>match e with
     |.normal=>match ySet H' b .ready .busy with
      |some H1=>aevC E H.length ri.N (E.keep ri.fid) call lf 0 ri.body F' H1 λe _ H2=>match e with
       |.normal=>(ySet H2 b .busy .ready).map (.bool true,·)
       |.ret=>(ySet H2 b .busy (.done none)).map (.bool false,·)
       |.exit id=>(ySet H2 b .busy (.done (some id))).map (.bool false,·)
      |none=>none
     |_=>none
    else none
   |none=>none
  |_=>none
 |_=>none
end Go.Ax
/- AxNow: what holds at every point of a function's run, against its entry. -/
namespace Go.Ax
structure Entry where
 I:Nat→Prop
 K:Nat→Prop
 ρ:PMap
 m:Nat
 w:World
 base:List Deferred
def Marks(e:Entry)(I:Nat→Prop)(w:World)(ds:List Deferred):Prop:=∃rs:List Nat,ds=rs.map (λr=>(⟨.collected r,#[]⟩:Deferred))++e.base∧rs.Nodup∧∀r∈rs,I r∧e.w.heap.size≤r∧w.heap[r]?=some (.deferred (some []))
theorem Marks.nil{e:Entry}{I:Nat→Prop}{w:World}:Marks e I w e.base:=⟨[],rfl,List.nodup_nil,λ_ h=>(by cases h)⟩
theorem Marks.mono{e:Entry}{I I':Nat→Prop}{w w':World}{ds:List Deferred}(h:Marks e I w ds)(hI:∀c,I c→I' c)(hw:∀c,I c→w'.heap[c]?=w.heap[c]?):Marks e I' w' ds:=by obtain⟨rs,h1,h2,h3⟩:=h;exact⟨rs,h1,h2,λr hr=>⟨hI r (h3 r hr).1,(h3 r hr).2.1,by rw[hw r (h3 r hr).1];exact(h3 r hr).2.2⟩⟩
theorem put_defers{a:Act}{d:Option Nat}{c:Value}:(a.put d c).defers=a.defers:=by cases d<;>rfl
def NRel(ρ:PMap)(n:Nat):Prop:=∀b,n≤b→ρ b=none
structure Now(E:Env)(e:Entry)(N:Nat)(F:Frm)(H:Heap)(I:Nat→Prop)(ρ:PMap)(a:Act)(w:World):Prop where
 imm:∀c,e.I c→I c
 map:∀b,b<e.m→ρ b=e.ρ b
 ext:Ext e.I e.K e.w w
 rel:HRel E.G I e.K ρ (HeapF H) w
 nrel:NRel ρ H.length
 frm:FRel I w ρ N F a.tmps
 low:e.m≤H.length
 marks:Marks e I w a.defers
section
variable {E:Env}
theorem HeapF_none(H:Heap):HeapF H H.length=none:=by simp[HeapF]
theorem eff_le(H:Heap)(e:Eff):∀b o,HeapF (effH H e) b=some o→((HeapF H).eff H.length e) b=some o:=by
 intro b o hb;cases e with
 |none=>exact hb
 |new o1=>
  simp only[effH,HeapF,FHeap.eff,FHeap.set]at hb⊢;by_cases h:b=H.length
  ·subst h;simp at hb;simp[hb]
  ·rw[if_neg h];rcases Nat.lt_or_ge b H.length with h1|h1
   ·rwa [List.getElem?_append_left h1]at hb
   ·rw[List.getElem?_eq_none (by simp;omega)]at hb;simp at hb
 |set b1 o1=>
  simp only[effH,HeapF,FHeap.eff,FHeap.set]at hb⊢;rw[List.getElem?_set]at hb;by_cases h:b=b1
  ·subst h;rw[if_pos rfl]at hb⊢;split at hb
   ·simpa using hb
   ·simp at hb
  ·rw[if_neg (λe=>h e.symm)]at hb;rw[if_neg h];exact hb
 |kill b1 o1=>
  simp only[effH,HeapF,FHeap.eff,FHeap.set]at hb⊢;by_cases h:b=H.length
  ·subst h;rw[List.getElem?_append_right (by simp)]at hb;simp at hb;simp[hb]
  ·rw[if_neg h];rcases Nat.lt_or_ge b H.length with h1|h1
   ·rw[List.getElem?_append_left (by simpa using h1),List.getElem?_set]at hb;by_cases h2:b=b1
    ·subst h2;rw[if_pos rfl]at hb;split at hb<;>simp at hb
    ·rw[if_neg (λe=>h2 e.symm)]at hb;rw[if_neg h2];exact hb
   ·rw[List.getElem?_eq_none (by simp;omega)]at hb;simp at hb
theorem effH_length(H:Heap)(e:Eff):(effH H e).length=if e.fresh then H.length+1 else H.length:=by cases e<;>simp[effH,Eff.fresh]
theorem NRel.moves{ρ ρ':PMap}{H:Heap}{e:Eff}(hn:NRel ρ H.length)(hm:Moves ρ ρ' H.length e):NRel ρ' (effH H e).length:=by
 intro b hb;rw[effH_length]at hb;cases hf:e.fresh with
 |false=>rw[hf]at hb;rw[hm.2 hf];exact hn b (by simpa using hb)
 |true=>
  rw[hf]at hb;have hb:H.length+1≤b:=by simpa using hb
  rw[hm.1 b (by omega)];exact hn b (by omega)
theorem Now.op(ok:EnvOk E){e:Entry}{N:Nat}{F:Frm}{H:Heap}{I:Nat→Prop}{ρ:PMap}{a:Act}{w:World}(h:Now E e N F H I ρ a w){o:Oper}{v:AV}{eff:Eff}
 (ha:aop E H.length (HeapF H) o.op (opv E F)=some (v,eff))(hd:dstOk N o.dst=true) :
 ∃x w' c ρ',(execOp a.eval o).run E.P w = .ok x w'∧(x = .value c∨(x = .skip∧c=undef))∧Now E e N (setF F o.dst v) (effH H eff) I ρ' (a.put o.dst c) w':=by
 obtain⟨x,w',c,ρ',hrun,hx,step,hv,hm⟩:=aop_ok ok h.rel (HeapF_none H) (h.nrel _ (Nat.le_refl _)) ha (opv_ok h.rel h.frm);refine⟨x,w',c,ρ',hrun,hx,?_⟩;have hd':∀s,o.dst=some s→s<N:=by intro s hs;rw[hs]at hd;simpa[dstOk,Nat.blt_eq]using hd
 refine⟨h.imm,λb hb=>?_,h.ext.trans h.imm step.ext,step.rel.fewer (eff_le H eff),h.nrel.moves hm,?_,?_,?_⟩
 ·rw[hm.1 b (by have:=h.low;omega)];exact h.map b hb
 ·exact(FRel.mono h.frm (λv c hv=>step.vrel hv)).set hd' hv
 ·rw[effH_length];have:=h.low;split<;>omega
 ·rw[put_defers];exact h.marks.mono (λ_ h=>h) (λc hc=>step.ext.keep c (.inl hc))
theorem Now.refine{e:Entry}{N:Nat}{F:Frm}{H:Heap}{I:Nat→Prop}{ρ:PMap}{a:Act}{w:World}(h:Now E e N F H I ρ a w){d:Nat}{v:AV}(hv:VRel I w ρ v (a.tmps.getD d undef)) :
 Now E e N (setF F (some d) v) H I ρ a w:=
 { h with frm:=⟨h.frm.1,λs=>by
  rw[getF_setF];split
  ·rename_i hs;subst hs;exact hv
  ·exact h.frm.2 s⟩ }
theorem Now.skip{e:Entry}{N:Nat}{F:Frm}{H:Heap}{I:Nat→Prop}{ρ:PMap}{a:Act}{w:World}(h:Now E e N F H I ρ a w){o:Oper}(hd:dstOk N o.dst=true) :
 Now E e N (setF F o.dst (.tuple [])) H I ρ (a.put o.dst undef) w:=
 { h with
  frm:=h.frm.set (by intro s hs;rw[hs]at hd;simpa[dstOk,Nat.blt_eq]using hd) (by simp only[VRel,undef];exact⟨#[],rfl,by simp[VRels]⟩)
  marks:=by rw[put_defers];exact h.marks }
end
end Go.Ax
/- AxCall: a call on the blocks that its arguments reach, and back. -/
namespace Go.Ax
structure Ret(E:Env)(I K:Nat→Prop)(ρ:PMap)(m:Nat)(w:World)(I':Nat→Prop)(ρ':PMap)(H':Heap)(w':World):Prop where
 imm:∀c,I c→I' c
 map:∀b,b<m→ρ' b=ρ b
 ext:Ext I K w w'
 rel:HRel E.G I' K ρ' (HeapF H') w'
 nrel:NRel ρ' H'.length
 low:m≤H'.length
abbrev Comp:=List Value→World→(Ending→World→Prop)→Prop
def XR(E:Env):Comp:=λcargs w R=>∃l vs fn tmps asg body,cargs = .func (.yield l) #[] #[]::vs∧(Instr.yield l vs.toArray).run E.P w = .ok (.round l fn tmps asg body) w∧RoundIn Fence.wide 0 E.P l fn tmps asg body w R
def XOf(E:Env)(g:FuncId):Comp:=if g=yId then XR E else λcargs w R=>Calls E.P g cargs.toArray w R
theorem XOf.mono{E:Env}{g:FuncId}{cargs:List Value}{w:World}{R R':Ending→World→Prop}(h:XOf E g cargs w R)(hr:∀e w',R e w'→R' e w'):XOf E g cargs w R':=by
 unfold XOf at h⊢;split at h
 ·rename_i hg;rw[if_pos hg];obtain⟨l,vs,fn,tmps,asg,body,h1,h2,h3⟩:=h;exact⟨l,vs,fn,tmps,asg,body,h1,h2,h3.mono hr⟩
 ·rename_i hg;rw[if_neg hg];exact Calls.mono h hr
theorem XOf_fn{E:Env}{g:FuncId}(hg:g≠yId):XOf E g=λcargs w R=>Calls E.P g cargs.toArray w R:=if_neg hg
theorem XOf_y{E:Env}:XOf E yId=XR E:=if_pos rfl
theorem fn_ne{E:Env}(ok:EnvOk E){g:FuncId}{i:FInfo}(h:E.fn g=some i):g≠yId:=λe=>by rw[e,ok.yid]at h;cases h
def FunOk(E:Env)(f:FuncId)(run:List AV→Heap→Option (AV×Heap)):Prop:=
 ∀args H v H',run args H=some (v,H')→∀(I K:Nat→Prop) (ρ:PMap) (w:World) (cargs:List Value),HRel E.G I K ρ (HeapF H) w→NRel ρ H.length→VRels I w ρ args cargs→
  XOf E f cargs w λen w'=>∃c I' ρ',en = .returned c∧Ret E I K ρ H.length w I' ρ' H' w'∧VRel I' w' ρ' v c
def KeptBut(K:Nat→Prop)(ρ:PMap)(hp:FHeap)(σ:List Nat):Nat→Prop:=λc=>K c∨∃b o m,hp b=some o∧ρ b=some m∧m.blk=c∧b∉σ
theorem idxOf_get{σ:List Nat}{b j:Nat}(h:σ.idxOf? b=some j):σ[j]?=some b:=by rw[List.idxOf?_eq_some_iff]at h;obtain⟨hj,hb,_⟩:=h;rw[List.getElem?_eq_getElem hj,hb]
theorem idxOf_none{σ:List Nat}{b:Nat}(h:σ.idxOf? b=none):b∉σ:=by simpa[List.idxOf?_eq_none_iff]using h
theorem nodup_of{l:List Nat}(h:nodupB l=true):l.Nodup:=by
 induction l with
 |nil=>exact List.nodup_nil
 |cons b r ih=>simp only[nodupB,Bool.and_eq_true,Bool.not_eq_true',←Bool.not_eq_true,containsN_iff]at h;exact List.nodup_cons.2 ⟨h.1,ih h.2⟩
theorem idxOf_of_get{σ:List Nat}{b j:Nat}(hn:σ.Nodup)(h:σ[j]?=some b):σ.idxOf? b=some j:=by rw[List.idxOf?_eq_some_iff];obtain⟨hj,hb⟩:=List.getElem?_eq_some_iff.1 h;refine⟨hj,hb,λi hi he=>?_⟩;have:=(List.getElem_inj (h₀:=by omega) (h₁:=hj) hn).1 (he.trans hb.symm);omega
section
variable {E:Env}{I K:Nat→Prop}{ρ:PMap}{hp:FHeap}{w:World}{σ:List Nat}
def smallF(hp:FHeap)(σ:List Nat):Heap:=σ.map λb=>(hp b).map (renObj (piOf σ))
theorem smallF_get(j:Nat):HeapF (smallF hp σ) j=(σ[j]?).bind λb=>(hp b).map (renObj (piOf σ)):=by simp only[HeapF,smallF,List.getElem?_map];cases σ[j]?<;>simp
theorem local_rel(r:HRel E.G I K ρ hp w)(hn:σ.Nodup):HRel E.G I (KeptBut K ρ hp σ) (λj=>(σ[j]?).bind ρ) (HeapF (smallF hp σ)) w:=by
 have r1:HRel E.G I K (λj=>(σ[j]?).bind ρ) (HeapF (smallF hp σ)) w:=by
  refine r.rename (π:=piOf σ) ?_ ?_ ?_
  ·intro b j m hj hb;have:=idxOf_get hj;simp only[this,Option.bind_some,hb]
  ·intro j o' ho;rw[smallF_get]at ho;cases hb:σ[j]? with
   |none=>rw[hb]at ho;simp at ho
   |some b=>
    rw[hb]at ho;simp only[Option.bind_some]at ho;cases hpb:hp b with
    |none=>rw[hpb]at ho;simp at ho
    |some o=>rw[hpb]at ho;simp only[Option.map_some,Option.some.injEq]at ho;exact⟨b,o,hpb,idxOf_of_get hn hb,ho.symm⟩
  ·intro j m hj;cases hb:σ[j]? with
   |none=>rw[hb]at hj;simp at hj
   |some b=>rw[hb]at hj;exact r.dom b m hj
 refine⟨?_,r1.inj,r1.dom,r1.imm,?_,?_,r1.glob⟩
 ·intro j o' ho;obtain⟨m,h1,h2,h3,h4⟩:=r1.live j o' ho;refine⟨m,h1,h2,?_,h4⟩
  rintro(hk|⟨b,o,m',hb,hm',he,hns⟩)
  ·exact h3 hk
  ·rw[smallF_get]at ho;cases hσ:σ[j]? with
   |none=>rw[hσ]at ho;simp at ho
   |some b'=>
    rw[hσ]at ho h1;simp only[Option.bind_some]at ho h1;have hl:(hp b').isSome:=by cases h:hp b' with|none=>rw[h]at ho;simp at ho|some _=>rfl
    have:=r.inj b b' m' m (by simp[hb]) hl hm' h1 he;subst this;exact hns (List.mem_of_getElem? hσ)
 ·rintro c (hk|⟨b,o,m',hb,hm',rfl,_⟩)
  ·exact r.kept c hk
  ·exact r.dom b m' hm'
 ·rintro c hc (hk|⟨b,o,m',hb,hm',rfl,_⟩)
  ·exact r.apart c hc hk
  ·obtain⟨m'',h1,h2,_⟩:=r.live b o hb;obtain rfl:m'=m'':=Option.some.inj (hm'.symm.trans h1);exact h2 hc
theorem callCore{g:FuncId}{run:List AV→Heap→Option (AV×Heap)}(hrun:FunOk E g run){args:List AV}{cargs:List Value}{v1:AV}{H1:Heap}
 (hcall:run (args.map (ren (piOf σ))) (smallF hp σ)=some (v1,H1))(r:HRel E.G I K ρ hp w)(hn:σ.Nodup)(ha:VRels I w ρ args cargs) :
 XOf E g cargs w λen w'=>∃c I1 ρ1,en = .returned c∧Ret E I (KeptBut K ρ hp σ) (λj=>(σ[j]?).bind ρ) σ.length w I1 ρ1 H1 w'∧VRel I1 w' ρ1 v1 c:=by
 have h:=hrun _ _ _ _ hcall I (KeptBut K ρ hp σ) (λj=>(σ[j]?).bind ρ) w cargs (local_rel r hn)
  (by intro j hj;simp only[smallF,List.length_map]at hj;simp[List.getElem?_eq_none hj])
  (by rw[←renL_eq];exact VRels.ren (λb j m hj hb=>by have:=idxOf_get hj;simp only[this,Option.bind_some,hb]) args ha)
 simpa[smallF]using h
theorem back_rel{n:Nat}{I1:Nat→Prop}{ρ1:PMap}{H1:Heap}{w':World}(r:HRel E.G I K ρ hp w)(_:σ.Nodup)
 (hret:Ret E I (KeptBut K ρ hp σ) (λj=>(σ[j]?).bind ρ) σ.length w I1 ρ1 H1 w'){ρ2:PMap}{h2:FHeap}
 (hold:∀b m,ρ b=some m→ρ2 b=some m)(hback:∀j b m,backOf σ n j=some b→ρ1 j=some m→ρ2 b=some m)
 (hdom:∀b m,ρ2 b=some m→ρ b=some m∨∃j,ρ1 j=some m)
 (hh:∀b o,h2 b=some o→(b∉σ∧hp b=some o)∨∃j o1,backOf σ n j=some b∧HeapF H1 j=some o1∧o=renObj (backOf σ n) o1) :
 HRel E.G I1 K ρ2 h2 w':=by
 have hsz:=hret.ext.size;have hIw:∀c,I c→w'.heap[c]?=w.heap[c]?:=λc hc=>hret.ext.keep c (.inl hc);have r1:=hret.rel;have live2:∀b o,h2 b=some o→∃m,ρ2 b=some m∧¬I1 m.blk∧¬K m.blk∧ORel E.G I1 w' ρ2 m o∧((b∉σ∧hp b=some o∧ρ b=some m)∨∃j,backOf σ n j=some b∧(HeapF H1 j).isSome∧ρ1 j=some m):=by
  intro b o hb;rcases hh b o hb with ⟨hns,hpb⟩|⟨j,o1,hj,ho1,rfl⟩
  ·obtain⟨m,h1,h3,h4,h5⟩:=r.live b o hpb;have hkb:KeptBut K ρ hp σ m.blk:=.inr ⟨b,o,m,hpb,h1,rfl,hns⟩;refine⟨m,hold b m h1,λhc=>r1.apart _ hc hkb,h4,?_,.inl ⟨hns,hpb,h1⟩⟩;exact ORel.mono o hret.imm hIw hold (hret.ext.keep _ (.inr hkb)) h5
  ·obtain⟨m,h1,h3,h4,h5⟩:=r1.live j o1 ho1;refine⟨m,hback j b m hj h1,h3,λhk=>h4 (.inl hk),ORel.ren (λj b m hj h=>hback j b m hj h) o1 h5,.inr ⟨j,hj,by simp[ho1],h1⟩⟩
 refine⟨?_,?_,?_,r1.imm,?_,?_,r1.glob⟩
 ·intro b o hb;obtain⟨m,h1,h3,h4,h5,_⟩:=live2 b o hb;exact⟨m,h1,h3,h4,h5⟩
 ·intro b b' m m' hb hb' hm hm' he;obtain⟨o,ho⟩:=Option.isSome_iff_exists.1 hb;obtain⟨o',ho'⟩:=Option.isSome_iff_exists.1 hb';obtain⟨q,hq,_,_,_,hc⟩:=live2 b o ho;obtain⟨q',hq',_,_,_,hc'⟩:=live2 b' o' ho';rw[hm]at hq;cases hq;rw[hm']at hq';cases hq';rcases hc with ⟨hns,hpb,h1⟩|⟨j,hj,hl,h1⟩<;>rcases hc' with ⟨hns',hpb',h1'⟩|⟨j',hj',hl',h1'⟩
  ·exact r.inj b b' m m' (by simp[hpb]) (by simp[hpb']) h1 h1' he
  ·exfalso;obtain⟨o1,ho1⟩:=Option.isSome_iff_exists.1 hl';obtain⟨q,hq,_,hk,_⟩:=r1.live j' o1 ho1;rw[h1']at hq;cases hq;exact hk (.inr ⟨b,o,m,hpb,h1,he,hns⟩)
  ·exfalso;obtain⟨o1,ho1⟩:=Option.isSome_iff_exists.1 hl;obtain⟨q,hq,_,hk,_⟩:=r1.live j o1 ho1;rw[h1]at hq;cases hq;exact hk (.inr ⟨b',o',m',hpb',h1',he.symm,hns'⟩)
  ·have:=r1.inj j j' m m' hl hl' h1 h1' he;subst this;rw[hj]at hj';exact Option.some.inj hj'
 ·intro b m hb;rcases hdom b m hb with h|⟨j,h⟩
  ·have:=r.dom b m h;omega
  ·exact r1.dom j m h
 ·intro c hc;have:=r.kept c hc;omega
 ·intro c hc hk;exact r1.apart c hc (.inl hk)
end
end Go.Ax
/- AxCall2: a call in sequence; the concrete step of a call. -/
namespace Go.Ax
section
variable {E:Env}{I K:Nat→Prop}{ρ:PMap}{w:World}
theorem putBack_get(σ:List Nat)(n:Nat)(H1:Heap):∀(b0:Nat) (H:Heap) (i:Nat),
 (putBack σ n H1 b0 H)[i]?=(H[i]?).map λo=>match σ.idxOf? (b0+i)with
  |some j=>(HeapF H1 j).map (renObj (backOf σ n))
  |none=>o
 |b0,[],i=>by simp[putBack]
 |b0,o::r,0=>by simp[putBack]<;>rfl
 |b0,o::r,i+1=>by simp only[putBack,List.getElem?_cons_succ];rw[putBack_get σ n H1 (b0+1) r i,show b0+1+i=b0+(i+1) by omega]
theorem putBack_length(σ:List Nat)(n:Nat)(H1:Heap):∀(b0:Nat) (H:Heap),(putBack σ n H1 b0 H).length=H.length
 |b0,[]=>by simp[putBack]
 |b0,o::r=>by simp[putBack,putBack_length σ n H1 (b0+1) r]
theorem callLoc_ok{g:FuncId}{run:List AV→Heap→Option (AV×Heap)}(hrun:FunOk E g run){args:List AV}{cargs:List Value}{H H':Heap}{v:AV}{σ:List Nat}
 (hcall:callLoc run args H=some (v,H',σ))(r:HRel E.G I K ρ (HeapF H) w)(hn:NRel ρ H.length)(ha:VRels I w ρ args cargs) :
 XOf E g cargs w λen w'=>∃c I' ρ',en = .returned c∧Ret E I K ρ H.length w I' ρ' H' w'∧VRel I' w' ρ' v c:=by
 unfold callLoc at hcall;simp only at hcall;generalize hσ:reach H reachFuel (refsL args) []=σ' at hcall;rw[cond_eq_ite]at hcall;split at hcall
 case isFalse=>cases hcall
 rename_i hc;simp only[Bool.and_eq_true,List.all_eq_true,Nat.blt_eq]at hc;obtain⟨hnd,hlt⟩:=hc;have hnd:=nodup_of hnd;split at hcall
 case h_2=>cases hcall
 rename_i v1 H1 hr;simp only[Option.some.injEq,Prod.mk.injEq]at hcall;obtain⟨rfl,rfl,rfl⟩:=hcall;have hr':run (args.map (ren (piOf σ'))) (smallF (HeapF H) σ')=some (v1,H1):=hr;refine XOf.mono (callCore hrun hr' r hnd ha) ?_
 rintro en w' ⟨c,I1,ρ1,rfl,hret,hv⟩
 have hback:∀j b m,backOf σ' H.length j=some b→ρ1 j=some m→(if b<H.length then ρ b else ρ1 (σ'.length+(b-H.length)))=some m:=by
  intro j b m hj hm;simp only[backOf]at hj;rw[cond_eq_ite]at hj;split at hj
  ·rename_i hjl;have hjl:j<σ'.length:=by simpa[Nat.blt_eq]using hjl
   have hb:=hlt b (List.mem_of_getElem? hj);rw[if_pos hb];have:=hret.map j hjl;rw[hm,hj]at this;exact this.symm
  ·rename_i hjl;have hjl:σ'.length≤j:=by simpa[Nat.blt_eq]using hjl
   cases hj;rw[if_neg (by omega),show σ'.length+(H.length+(j-σ'.length)-H.length)=j by omega];exact hm
 have hold:∀b m,ρ b=some m→(if b<H.length then ρ b else ρ1 (σ'.length+(b-H.length)))=some m:=by
  intro b m hb;have:b<H.length:=by
   rcases Nat.lt_or_ge b H.length with h|h
   ·exact h
   ·rw[hn b h]at hb;cases hb
  rw[if_pos this];exact hb
 refine⟨c,I1,λb=>if b<H.length then ρ b else ρ1 (σ'.length+(b-H.length)),rfl,⟨hret.imm,λb hb=>by rw[if_pos hb],hret.ext.keepLess (λc hc=>.inl hc),?_,?_,?_⟩,?_⟩
 ·refine back_rel r hnd hret hold hback ?_ ?_
  ·intro b m hb;split at hb
   ·exact .inl hb
   ·exact .inr ⟨_,hb⟩
  ·intro b o hb;simp only[HeapF]at hb;rcases Nat.lt_or_ge b H.length with hbl|hbl
   ·rw[List.getElem?_append_left (by rw[putBack_length];exact hbl),putBack_get]at hb;simp only[Nat.zero_add]at hb;rw[List.getElem?_eq_getElem hbl]at hb;simp only[Option.map_some,Option.join_some]at hb;split at hb
    ·rename_i j hj;right;have hσj:=idxOf_get hj;have hjl:=(List.getElem?_eq_some_iff.1 hσj).1;obtain⟨o1,ho1,rfl⟩:=map_some_inv hb;refine⟨j,o1,?_,ho1,rfl⟩;simp only[backOf];rw[cond_eq_ite,if_pos (by simpa[Nat.blt_eq]using hjl)];exact hσj
    ·rename_i hj;left;exact⟨idxOf_none hj,by simp only[HeapF];rw[List.getElem?_eq_getElem hbl];simpa using hb⟩
   ·right;rw[List.getElem?_append_right (by rw[putBack_length];exact hbl),putBack_length,List.getElem?_map,List.getElem?_drop]at hb;refine⟨σ'.length+(b-H.length),?_⟩;cases hx:H1[σ'.length+(b-H.length)]? with
    |none=>rw[hx]at hb;simp at hb
    |some ob=>
     rw[hx]at hb;simp only[Option.map_some,Option.join_some]at hb;obtain⟨o1,rfl,rfl⟩:=map_some_inv hb;refine⟨o1,?_,by simp[HeapF,hx],rfl⟩;simp only[backOf];rw[cond_eq_ite,if_neg (by simp[Nat.blt_eq])]
     congr 1;omega
 ·intro b hb;simp only[List.length_append,putBack_length,List.length_map,List.length_drop]at hb;have hlow:=hret.low;dsimp only;rw[if_neg (by omega)];exact hret.nrel _ (by omega)
 ·simp[putBack_length]
 ·exact VRel.ren (λj b m hj hm=>hback j b m hj hm) v1 hv
theorem exec_call{a:Act}{o:Oper}{f:Operand}{args:Array Operand}{ats:Array TypeId}(ho:o.op = .call ⟨.value f,args,ats⟩){g:FuncId}{fs cs:Array Value}(hf:a.eval f = .func (.func g) fs cs) :
 (execOp a.eval o).run E.P w=(callFunc g (fs++args.map a.eval++cs)).run E.P w:=by
 obtain⟨dst,op,type,pos,after,guard⟩:=o;simp only at ho;subst ho;simp[execOp,resolve,hf,Deferred.ofValue,invoke]
theorem callFunc_enter(ok:EnvOk E){g:FuncId}(hg:(E.fn g).isSome=true)(args:Array Value):(callFunc g args).run E.P w = .ok (.enter g args) w:=by
 obtain⟨i,hi⟩:=Option.isSome_iff_exists.1 hg;obtain⟨fn,h1,h2,_,_,h5⟩:=ok.fn g i hi
 have h6:¬fn.name = "runtime.NumGoroutine" := by simpa using h5
 simp[callFunc,h1,h2,h6]
theorem callFunc_ext(ok:EnvOk E){g:FuncId}(hg:E.ext g=true)(hfn:(E.fn g).isSome=false){args:List AV}{cargs:List Value}{v:AV}(hv:aext args=some v)(ha:VRels I w ρ args cargs) :
 ∃c,(callFunc g cargs.toArray).run E.P w = .ok (.value c) w∧VRel I w ρ v c:=by
 obtain⟨fn,h1,h2,h3,h4,h5⟩:=ok.ext g hg hfn;unfold aext at hv;split at hv
 case h_2=>cases hv
 rename_i s cc;cases hv;simp only[VRels]at ha;obtain⟨c1,_,rfl,hs,c2,_,rfl,hb,rfl⟩:=ha;simp only[VRel]at hs hb;obtain⟨t,rfl,ht⟩:=hs;subst hb;refine⟨.int .i64 (Lib.indexByte s cc.toNat.toUInt8),?_,by simp[VRel]⟩;have:=Lib.run_indexByteString (P:=E.P) t cc w;rw[ht]at this
 have h6:¬fn.name = "runtime.NumGoroutine" := by simpa using h3
 simp[callFunc,h1,h2,h6,h4,h5,this]
end
end Go.Ax
/- AxWf: the walk of a function's body and that of a round's, in one. -/
namespace Go.Ax
def wf:Option Nat→Fence
 |none=>Fence.wide
 |some l=>Fence.wide.inRound l
@[simp] theorem wf_fn(ro:Option Nat)(f:FuncId):(wf ro).fn f:=by cases ro<;>trivial
@[simp] theorem wf_round(ro:Option Nat):(wf ro).round=ro:=by cases ro<;>rfl
@[simp] theorem wf_depth(ro:Option Nat):(wf ro).depth=none:=by cases ro<;>rfl
theorem calls_wf{ro:Option Nat}{n:Nat}{P:Program}{f:FuncId}{args:Array Value}{w:World}{R:Ending→World→Prop}:CallsIn (wf ro) n P f args w R↔Calls P f args w R:=by
 cases ro
 ·exact callsIn_wide
 ·exact callsIn_wide (n:=n)
theorem round_wf{ro:Option Nat}{n:Nat}{P:Program}{l:Nat}{f:FuncId}{tmps:Array Value}{assign body:Code}{w:World}{R:Ending→World→Prop} :
 RoundIn (wf ro) n P l f tmps assign body w R↔RoundIn Fence.wide n P l f tmps assign body w R:=by
 cases ro<;>exact Iff.rfl
section
variable {P:Program}{ro:Option Nat}{o:Oper}{a:Act}{w:World}{K:Act→World→Prop}{Q:Exit→Act→World→Prop}
theorem wpIn_of(hd:∀c,o.op≠ .defer c)(h:o.uponIn (wf ro) 0 P a K Q ((execOp a.eval o).run P w)):o.wpIn (wf ro) 0 P a w K Q:=⟨λf _=>wf_fn ro f,by rw[wf_round,Oper.semAt_eq _ _ _ hd];exact h⟩
theorem upon_enter{f:FuncId}{args:Array Value}(h:Calls P f args w fun
 |.returned v,w''=>K (a.put o.dst v) w''
 |.panicked chain,w''=>Q (.panic chain) a w''
 |.outgrown,_=>LetsOut Q):o.uponIn (wf ro) 0 P a K Q (.ok (.enter f args) w):=
 ⟨λh=>by simp at h,calls_wf.2 h⟩
theorem upon_round{l:Nat}{f:FuncId}{tmps:Array Value}{assign body:Code}(h:RoundIn Fence.wide 0 P l f tmps assign body w fun
 |.returned v,w''=>K (a.put o.dst v) w''
 |.panicked chain,w''=>Q (.panic chain) a w''
 |.outgrown,_=>LetsOut Q):o.uponIn (wf ro) 0 P a K Q (.ok (.round l f tmps assign body) w):=
 ⟨λh=>by simp at h,round_wf.2 h⟩
theorem aop_nodefer{E:Env}{n:Nat}{h:FHeap}{op:Op}{v:Operand→AV}{r:AV×Eff}(ha:aop E n h op v=some r):∀c,op≠ .defer c:=by
 rintro c rfl
 simp[aop]at ha
theorem exec_yield{f:Operand}{args:Array Operand}{ats:Array TypeId}(ho:o.op = .call ⟨.value f,args,ats⟩){l:Nat}(hf:a.eval f = .func (.yield l) #[] #[]) :
 (execOp a.eval o).run P w=(Instr.yield l (args.map a.eval)).run P w:=by
 obtain⟨dst,op,type,pos,after,guard⟩:=o;simp only at ho;subst ho;simp[execOp,resolve,hf,Deferred.ofValue,invoke]
end
end Go.Ax
/- AxLend: lent calls: the callee sees its caller's memory as immutable, and gives new memory only, which is frozen at once. -/
namespace Go.Ax
section
variable {I I':Nat→Prop}{w:World}{ρ:PMap}
mutual
theorem VRel.noI:∀(v:AV) {c:Value},noI v=true→VRel I w ρ v c→VRel I' w ρ v c
 |.junk,c,_,h=>by simp[VRel]
 |.bool b,c,_,h=>by simpa[VRel]using h
 |.int k n,c,_,h=>by simpa[VRel]using h
 |.str s,c,_,h=>by simpa[VRel]using h
 |.nilptr,c,_,h=>by simpa[VRel]using h
 |.nilslice,c,_,h=>by simpa[VRel]using h
 |.nilmap,c,_,h=>by simpa[VRel]using h
 |.nilfunc,c,_,h=>by simpa[VRel]using h
 |.nilifc,c,_,h=>by simpa[VRel]using h
 |.ptr b i o,c,_,h=>by simpa only[VRel]using h
 |.slice b off len cap,c,_,h=>by simpa only[VRel]using h
 |.map b,c,_,h=>by simpa only[VRel]using h
 |.yfn b,c,_,h=>by simpa only[VRel]using h
 |.iptr cs,c,hn,_=>by simp[Ax.noI]at hn
 |.islice rows cap,c,hn,_=>by simp[Ax.noI]at hn
 |.imap ks vs bs clock,c,hn,_=>by simp[Ax.noI]at hn
 |.iset ks,c,hn,_=>by simp[Ax.noI]at hn
 |.func fn fs cs,c,hn,h=>by simp only[Ax.noI,Bool.and_eq_true]at hn;simp only[VRel]at h⊢;obtain⟨a,b,rfl,h1,h2⟩:=h;exact⟨a,b,rfl,VRels.noI fs hn.1 h1,VRels.noI cs hn.2 h2⟩
 |.iface t x,c,hn,h=>by simp only[Ax.noI]at hn;simp only[VRel]at h⊢;obtain⟨a,rfl,h1⟩:=h;exact⟨a,rfl,VRel.noI x hn h1⟩
 |.agg cs,c,hn,h=>by simp only[Ax.noI]at hn;simp only[VRel]at h⊢;obtain⟨a,rfl,h1⟩:=h;exact⟨a,rfl,VRels.noI cs hn h1⟩
 |.tuple cs,c,hn,h=>by simp only[Ax.noI]at hn;simp only[VRel]at h⊢;obtain⟨a,rfl,h1⟩:=h;exact⟨a,rfl,VRels.noI cs hn h1⟩
theorem VRels.noI:∀(vs:List AV) {cs:List Value},noIL vs=true→VRels I w ρ vs cs→VRels I' w ρ vs cs
 | [],cs,_,h=>by simpa[VRels]using h
 |v::vs,cs,hn,h=>by simp only[noIL,Bool.and_eq_true]at hn;simp only[VRels]at h⊢;obtain⟨c,cs',rfl,h1,h2⟩:=h;exact⟨c,cs',rfl,VRel.noI v hn.1 h1,VRels.noI vs hn.2 h2⟩
end
theorem VAt.noI:∀(vs:List AV) {b off:Nat},noIL vs=true→VAt I w ρ vs b off→VAt I' w ρ vs b off
 | [],b,off,_,h=>by simp[VAt]
 |v::vs,b,off,hn,h=>by simp only[noIL,Bool.and_eq_true]at hn;simp only[VAt]at h⊢;obtain⟨⟨c,hc,h1⟩,h2⟩:=h;exact⟨⟨c,hc,VRel.noI v hn.1 h1⟩,VAt.noI vs hn.2 h2⟩
theorem VRows.noI{k:Nat}:∀(rs:List (List AV)) {b off:Nat},rs.all noIL=true→VRows I w k ρ rs b off→VRows I' w k ρ rs b off
 | [],b,off,_,h=>by simp[VRows]
 |r::rs,b,off,hn,h=>by simp only[List.all_cons,Bool.and_eq_true]at hn;simp only[VRows]at h⊢;exact⟨h.1,VAt.noI r hn.1 h.2.1,VRows.noI rs hn.2 h.2.2⟩
theorem ORel.noI{G:GTab (List AV)}{m:Pl}(o:AObj)(hn:noIO o=true)(h:ORel G I w ρ m o):ORel G I' w ρ m o:=by
 cases o with
 |row k rows=>exact⟨h.1,h.2.1,h.2.2.1,VRows.noI rows hn h.2.2.2⟩
 |map ks vs bs clock=>simp only[noIO,Bool.and_eq_true]at hn;obtain⟨es,h1,h2,h3,h4⟩:=h;exact⟨es,h1,VRels.noI ks hn.1 h2,VRels.noI vs hn.2 h3,h4⟩
 |siter s pos=>exact h
 |uset ks=>exact h
 |miter ks vis arm=>simp[noIO]at hn
 |yloop y F st=>simp[noIO]at hn
 |trow t x k rows=>simp[noIO]at hn
end
theorem cleanF_some{H:Heap}{b:Nat}{o:AObj}(h:cleanF H b=some o):HeapF H b=some o∧noIO o=true:=by
 unfold cleanF at h;split at h
 case h_2=>cases h
 rename_i o' ho;rw[cond_eq_ite]at h;split at h
 case isFalse=>cases h
 rename_i hn;cases h;exact⟨ho,hn⟩
section
variable {E:Env}{I K:Nat→Prop}{ρ:PMap}{h hl:FHeap}{w:World}
theorem lend_core{g:FuncId}{run:List AV→Heap→Option (AV×Heap)}(hrun:FunOk E g run)(hsub:∀b o,hl b=some o→h b=some o)(r:HRel E.G I K ρ h w){args args':List AV}{cargs:List Value}{v v':AV}{H1:Heap}
 (ha:VRels I w ρ args cargs)(hf:frzL 0 false (frzD hl 0 12) args=some args')(hr:run args' []=some (v,H1))(hn:noI v=true)(hv:frzV 0 false (frzD (cleanF H1) 0 12) v=some v') :
 XOf E g cargs w λen w'=>∃c I',en = .returned c∧(∀c,I c→I' c)∧Ext I K w w'∧HRel E.G I' K ρ h w'∧VRel I' w' ρ v' c:=by
 have rl:HRel E.G I K ρ hl w:=r.fewer hsub;have hI:∀c,I c→Frozen I ρ hl 0 c:=λc hc=>.inl hc;have h1:=frzL_ok hI (frzD_reads rl 12) args hf ha;rw[below_false]at h1;have hIs:∀c,Frozen I ρ hl 0 c→Frozen I ρ h 0 c:=by
  rintro c (hc|⟨b,o,p,h0,hb,hp,he⟩)
  ·exact .inl hc
  ·exact .inr ⟨b,o,p,h0,hsub b o hb,hp,he⟩
 have h2:VRels (Frozen I ρ h 0) w noP args' cargs:=VRels.mono hIs (λ_ _=>rfl) args' (λ_ _ h=>h) h1;have sizes:∀c,Frozen I ρ h 0 c→c<w.heap.size:=by
  rintro c (hc|⟨b,o,p,_,_,hp,rfl⟩)
  ·exact r.imm c hc
  ·exact r.dom b p hp
 have rel0:HRel E.G (Frozen I ρ h 0) K noP (HeapF []) w:=by
  refine⟨λb o hb=>by simp[HeapF]at hb,λb b' m m' hb=>by simp[HeapF]at hb,λb m hb=>by simp[noP]at hb,sizes,r.kept,?_,λg cs hg=>⟨.inl (r.glob g cs hg).1,GAt.mono (λc hc=>.inl hc) (λ_ _=>rfl) cs (λ_ _ h=>h) rfl (r.glob g cs hg).2⟩⟩
  rintro c (hc|⟨b,o,p,_,hb,hp,rfl⟩)
  ·exact r.apart c hc
  ·obtain⟨q,hq,_,hk,_⟩:=r.live b o hb;rw[hp]at hq;cases hq;exact hk
 have hcall:=hrun args' [] v H1 hr (Frozen I ρ h 0) K noP w cargs rel0 (λ_ _=>rfl) h2;refine XOf.mono hcall ?_
 rintro en w' ⟨c,I1,ρ1,rfl,hret,hv1⟩
 have keep:∀c,I c→w'.heap[c]?=w.heap[c]?:=λc hc=>hret.ext.keep c (.inl (.inl hc));have hsz:=hret.ext.size;have live1:∀b o p,cleanF H1 b=some o→ρ1 b=some p→¬I1 p.blk∧¬K p.blk:=by intro b o p hb hp;obtain⟨q,hq,h3,h4,_⟩:=hret.rel.live b o (cleanF_some hb).1;rw[hp]at hq;cases hq;exact⟨h3,h4⟩
 have relC:HRel E.G I K ρ1 (cleanF H1) w':=by
  refine⟨?_,?_,hret.rel.dom,λc hc=>by have:=r.imm c hc;omega,hret.rel.kept,r.apart,λg cs hg=>⟨(r.glob g cs hg).1,GAt.mono (λ_ h=>h) keep cs (λ_ _ h=>h) (keep _ (r.glob g cs hg).1) (r.glob g cs hg).2⟩⟩
  ·intro b o hb;obtain⟨hb1,hb2⟩:=cleanF_some hb;obtain⟨q,hq,h3,h4,h5⟩:=hret.rel.live b o hb1;exact⟨q,hq,λhc=>h3 (hret.imm _ (.inl hc)),h4,ORel.noI o hb2 h5⟩
  ·intro b b' m m' hb hb';obtain⟨o,ho⟩:=Option.isSome_iff_exists.1 hb;obtain⟨o',ho'⟩:=Option.isSome_iff_exists.1 hb';exact hret.rel.inj b b' m m' (by rw[(cleanF_some ho).1];rfl) (by rw[(cleanF_some ho').1];rfl)
 have hv2:=frzV_ok (I':=Frozen I ρ1 (cleanF H1) 0) (λc hc=>.inl hc) (frzD_reads relC 12) v hv (VRel.noI (I':=I) v hn hv1);rw[below_false]at hv2;refine⟨c,Frozen I ρ1 (cleanF H1) 0,rfl,λc hc=>.inl hc,⟨hret.ext.os,hret.ext.tape,hret.ext.output,hsz,λc hc=>hret.ext.keep c (hc.imp .inl id)⟩,?_,VRel.mono (λ_ h=>h) (λ_ _=>rfl) v' (λ_ _ h=>by simp[noP]at h) hv2⟩;refine⟨?_,r.inj,λb m hb=>by have:=r.dom b m hb;omega,?_,hret.rel.kept,?_,λg cs hg=>⟨.inl (r.glob g cs hg).1,GAt.mono (λc hc=>.inl hc) keep cs (λ_ _ h=>h) (keep _ (r.glob g cs hg).1) (r.glob g cs hg).2⟩⟩
 ·intro b o hb;obtain⟨m,h3,h4,h5,h6⟩:=r.live b o hb;have hin:Frozen I ρ h 0 m.blk:=.inr ⟨b,o,m,Nat.zero_le _,hb,h3,rfl⟩;refine⟨m,h3,?_,h5,ORel.mono o (λc hc=>.inl hc) keep (λ_ _ h=>h) (hret.ext.keep _ (.inl hin)) h6⟩
  rintro(hc|⟨b',o',p,_,hb',hp,he⟩)
  ·exact h4 hc
  ·exact(live1 b' o' p hb' hp).1 (he▸hret.imm _ hin)
 ·rintro c (hc|⟨b',o',p,_,hb',hp,rfl⟩)
  ·have:=r.imm c hc;omega
  ·exact hret.rel.dom b' p hp
 ·rintro c (hc|⟨b',o',p,_,hb',hp,rfl⟩)
  ·exact r.apart c hc
  ·exact(live1 b' o' p hb' hp).2
theorem lendLoc_inv{run:List AV→Heap→Option (AV×Heap)}{args:List AV}{H H':Heap}{v':AV}{σ:List Nat}(hcall:lendLoc run args H=some (v',H',σ)) :
 H'=H∧σ=List.range H.length∧∃args' v H1,frzL 0 false (frzD (HeapF H) 0 12) args=some args'∧run args' []=some (v,H1)∧noI v=true∧frzV 0 false (frzD (cleanF H1) 0 12) v=some v':=by
 unfold lendLoc at hcall;split at hcall
 case h_2=>cases hcall
 rename_i args' h1;split at hcall
 case h_2=>cases hcall
 rename_i v H1 h2;rw[cond_eq_ite]at hcall;split at hcall
 case isFalse=>cases hcall
 rename_i h3;split at hcall
 case h_2=>cases hcall
 rename_i v2 h4;cases hcall;exact⟨rfl,rfl,args',v,H1,h1,h2,h3,h4⟩
theorem lendLoc_ok{g:FuncId}{run:List AV→Heap→Option (AV×Heap)}(hrun:FunOk E g run){args:List AV}{cargs:List Value}{H H':Heap}{v:AV}{σ:List Nat}
 (hcall:lendLoc run args H=some (v,H',σ))(r:HRel E.G I K ρ (HeapF H) w)(hn:NRel ρ H.length)(ha:VRels I w ρ args cargs) :
 XOf E g cargs w λen w'=>∃c I' ρ',en = .returned c∧Ret E I K ρ H.length w I' ρ' H' w'∧VRel I' w' ρ' v c:=by
 obtain⟨rfl,-,args',v0,H1,h1,h2,h3,h4⟩:=lendLoc_inv hcall;refine XOf.mono (lend_core hrun (λ_ _ h=>h) r ha h1 h2 h3 h4) ?_
 rintro en w' ⟨c,I',rfl,hI,hext,hrel,hv⟩
 exact⟨c,I',ρ,rfl,⟨hI,λ_ _=>rfl,hext,hrel,hn,Nat.le_refl _⟩,hv⟩
end
end Go.Ax
/- AxSeq: operations in a row that draw no order. -/
namespace Go.Ax
section
variable {E:Env}
theorem Now.call{e:Entry}{N:Nat}{F:Frm}{H H':Heap}{I I':Nat→Prop}{ρ ρ':PMap}{a:Act}{w w':World}(h:Now E e N F H I ρ a w)(r:Ret E I e.K ρ H.length w I' ρ' H' w')
 {d:Option Tmp}{v:AV}{c:Value}(hd:dstOk N d=true)(hv:VRel I' w' ρ' v c):Now E e N (setF F d v) H' I' ρ' (a.put d c) w':=by
 have hρ:∀b m,ρ b=some m→ρ' b=some m:=by
  intro b m hb;have:b<H.length:=by
   rcases Nat.lt_or_ge b H.length with h'|h'
   ·exact h'
   ·rw[h.nrel b h']at hb;cases hb
  rw[r.map b this];exact hb
 refine⟨λc hc=>r.imm c (h.imm c hc),λb hb=>?_,h.ext.trans h.imm r.ext,r.rel,r.nrel,?_,?_,?_⟩
 ·rw[r.map b (by have:=h.low;omega)];exact h.map b hb
 ·exact(FRel.mono h.frm (λv c hv=>VRel.mono r.imm (λc hc=>r.ext.keep c (.inl hc)) v hρ hv)).set (by intro s hs;rw[hs]at hd;simpa[dstOk,Nat.blt_eq]using hd) hv
 ·have:=h.low;have:=r.low;omega
 ·rw[put_defers];exact h.marks.mono r.imm (λc hc=>r.ext.keep c (.inl hc))
def CallsOk(E:Env)(call:FuncId→List AV→Heap→Option (AV×Heap)):Prop:=∀g,FunOk E g (call g)
theorem stepOp_ok(ok:EnvOk E){ro:Option Nat}{call:FuncId→List AV→Heap→Option (AV×Heap)}(hcall:CallsOk E call){draw:Bool}{e:Entry}{N:Nat}{F:Frm}{H H':Heap}{I:Nat→Prop}{ρ:PMap}{a:Act}{w:World}
 (h:Now E e N F H I ρ a w){o:Oper}{v:AV}{l:LogE}(hs:stepOp E draw call F H o.op=some (v,H',l))(hd:dstOk N o.dst=true){K:Act→World→Prop}{Q:Exit→Act→World→Prop}
 (hK:∀I' ρ' a' w',Now E e N (setF F o.dst v) H' I' ρ' a' w'→K a' w'):o.wpIn (wf ro) 0 E.P a w K Q:=by
 unfold stepOp at hs;split at hs
 ·rename_i f args ats hop;split at hs
  case h_2=>cases hs
  rename_i v' H1 σ hcv;cases hs;refine wpIn_of (by rw[hop];intro c hc;cases hc) ?_;unfold callV at hcv;split at hcv
  case h_3=>cases hcv
  case h_2=>
   rename_i b hfv;have hf:=opv_ok h.rel h.frm f;rw[hfv]at hf;simp only[VRel]at hf;obtain⟨m,hm,hfe⟩:=hf;rw[exec_yield hop hfe];split at hcv
   case h_2=>cases hcv
   rename_i v'' H2 σ2 hloc;rw[cond_eq_ite]at hcv;split at hcv
   case isTrue=>cases hcv
   cases hcv;have hargs:VRels I w ρ (.yfn b::args.toList.map (opv E F)) (.func (.yield m.blk) #[] #[]::(args.map a.eval).toList):=by simp only[VRels];refine⟨_,_,rfl,by simp only[VRel];exact⟨m,hm,rfl⟩,?_⟩;rw[Array.toList_map];exact vrels_map (opv_ok h.rel h.frm) args.toList
   have hc:=callLoc_ok (hcall yId) hloc h.rel h.nrel hargs;rw[XOf_y]at hc;obtain⟨l,vs,fn,tmps,asg,body,he,hy,hr⟩:=hc;simp only[List.cons.injEq,Value.func.injEq,Fn.yield.injEq,and_true]at he;obtain⟨hl,rfl⟩:=he;rw[hl];have harr:(args.map a.eval).toList.toArray=args.map a.eval:=by apply Array.ext';simp
   rw[harr]at hy;rw[hy];refine upon_round (hr.mono ?_)
   rintro en w' ⟨c,I',ρ',rfl,hret,hvc⟩
   exact hK I' ρ' _ _ (h.call hret hd hvc)
  rename_i g fs cs hfv;have hf:=opv_ok h.rel h.frm f;rw[hfv]at hf;simp only[VRel]at hf;obtain⟨fs',cs',hfe,hfs,hcs⟩:=hf;have hargs:VRels I w ρ (fs++args.toList.map (opv E F)++cs) (fs'++args.map a.eval++cs').toList:=by simp only[Array.toList_append,Array.toList_map];exact VRels.append (VRels.append hfs (vrels_map (opv_ok h.rel h.frm) args.toList)) hcs
  rw[exec_call hop hfe];rw[cond_eq_ite]at hcv;split at hcv
  ·rename_i hext;rw[cond_eq_ite]at hcv;split at hcv
   ·rename_i hg;rw[callFunc_enter ok hg];have hc:=lendLoc_ok (hcall g) hcv h.rel h.nrel hargs;obtain⟨i,hi⟩:=Option.isSome_iff_exists.1 hg;rw[XOf_fn (fn_ne ok hi)]at hc;have harr:(fs'++args.map a.eval++cs').toList.toArray=fs'++args.map a.eval++cs':=by apply Array.ext';simp
    rw[harr]at hc;refine upon_enter (Calls.mono hc ?_)
    rintro en w' ⟨c,I',ρ',rfl,hret,hvc⟩
    exact hK I' ρ' _ _ (h.call hret hd hvc)
   rename_i hfn;split at hcv
   case h_2=>cases hcv
   rename_i v'' hv'';cases hcv;obtain⟨c,hrun,hvc⟩:=callFunc_ext (E:=E) (w:=w) ok hext (by simpa using hfn) hv'' hargs;have harr:(fs'++args.map a.eval++cs').toList.toArray=fs'++args.map a.eval++cs':=by apply Array.ext';simp
   rw[harr]at hrun;rw[hrun,Oper.uponIn_value];exact hK I ρ _ _ (h.call ⟨λ_ h=>h,λ_ _=>rfl,Ext.refl _ _ _,h.rel,h.nrel,Nat.le_refl _⟩ hd hvc)
  ·rw[cond_eq_ite]at hcv;split at hcv
   case isFalse=>cases hcv
   rename_i hg;split at hcv
   case h_2=>cases hcv
   rename_i v'' H2 σ2 hloc;rw[cond_eq_ite]at hcv;split at hcv
   case isTrue=>cases hcv
   cases hcv;rw[callFunc_enter ok hg];have hc:=callLoc_ok (hcall g) hloc h.rel h.nrel hargs;obtain⟨i,hi⟩:=Option.isSome_iff_exists.1 hg;rw[XOf_fn (fn_ne ok hi)]at hc;have harr:(fs'++args.map a.eval++cs').toList.toArray=fs'++args.map a.eval++cs':=by apply Array.ext';simp
   rw[harr]at hc;refine upon_enter (Calls.mono hc ?_)
   rintro en w' ⟨c,I',ρ',rfl,hret,hvc⟩
   exact hK I' ρ' _ _ (h.call hret hd hvc)
 ·split at hs
  case h_2=>cases hs
  rename_i v' eff ha;rw[cond_eq_ite]at hs;split at hs
  case isFalse=>cases hs
  cases hs;obtain⟨x,w',c,ρ',hrun,hx,hnow⟩:=h.op ok ha hd;refine wpIn_of (aop_nodefer ha) ?_;rw[hrun];rcases hx with rfl|⟨rfl,rfl⟩
  ·rw[Oper.uponIn_value];exact hK I ρ' _ _ hnow
  ·rw[Oper.uponIn_skip];exact hK I ρ' _ _ hnow
theorem wpOps_here{ro:Option Nat}{P:Program}{ops:Array Oper}{Q:Exit→Act→World→Prop}{i:Nat}{rest:List Nat}{a:Act}{w:World}{o:Oper}(ho:ops[i]?=some o)
 (hw:Region.wanted o (yielded ops a.tmps)=true)(h:o.wpIn (wf ro) 0 P a w (wpOpsIn (wf ro) 0 P ops Q rest) Q):wpOpsIn (wf ro) 0 P ops Q (i::rest) a w:=by
 simp only[wpOpsIn,ho,hw,if_true];exact h
theorem wpOps_skip{ro:Option Nat}{P:Program}{ops:Array Oper}{Q:Exit→Act→World→Prop}{i:Nat}{rest:List Nat}{a:Act}{w:World}{o:Oper}(ho:ops[i]?=some o)
 (hw:Region.wanted o (yielded ops a.tmps)=false)(h:wpOpsIn (wf ro) 0 P ops Q rest (a.put o.dst undef) w):wpOpsIn (wf ro) 0 P ops Q (i::rest) a w:=by
 simp only[wpOpsIn,ho,hw,Bool.false_eq_true,if_false];exact⟨λf _=>wf_fn ro f,h⟩
theorem yielded_of{e:Entry}{N:Nat}{F:Frm}{H:Heap}{I:Nat→Prop}{ρ:PMap}{a:Act}{w:World}(h:Now E e N F H I ρ a w){ops:Array Oper}{j d:Nat}(hg:guardSlot ops.toList j=some d) :
 (∀b,getF F d = .bool b→yielded ops a.tmps j=some b)∧(getF F d = .tuple []→yielded ops a.tmps j=none):=by
 have hd:(ops[j]?).bind (·.dst)=some d:=by simpa[guardSlot]using hg
 have hv:=h.frm.2 d;have hget:∀c,a.tmps.getD d undef=c→c≠undef→a.tmps[d]?=some c:=by
  intro c hc hne;rw[Array.getD_eq_getD_getElem?]at hc;cases hx:a.tmps[d]? with
  |none=>rw[hx]at hc;exact absurd hc.symm hne
  |some x=>rw[hx]at hc;simpa using hc
 refine⟨λb hb=>?_,λhb=>?_⟩
 ·rw[hb]at hv;simp only[VRel]at hv;have:=hget _ hv (by simp[undef]);simp[yielded,hd,this]
 ·rw[hb]at hv;simp only[VRel]at hv;obtain⟨cs,hc,hcs⟩:=hv;unfold yielded;rw[hd];simp only[Option.bind_some];rw[Array.getD_eq_getD_getElem?]at hc;cases hx:a.tmps[d]? with
  |none=>rfl
  |some x=>rw[hx]at hc;simp only[Option.getD_some]at hc;rw[hc]
theorem runOps_seq(ok:EnvOk E){ro:Option Nat}{call:FuncId→List AV→Heap→Option (AV×Heap)}(hcall:CallsOk E call){e:Entry}{N:Nat}{ops:Array Oper}{R:Type}{k:Frm→Heap→Option R}{r:R}
 {Q:Exit→Act→World→Prop}(hQ:∀F H I ρ a w,Now E e N F H I ρ a w→k F H=some r→Q .normal a w) :
 ∀(rest:List Oper) (s:Nat) (log:List LogE) (F:Frm) (H:Heap) (I:Nat→Prop) (ρ:PMap) (a:Act) (w:World),rest=ops.toList.drop s→Now E e N F H I ρ a w→
  runOps E false N call ops.toList rest log F H k=some r→wpOpsIn (wf ro) 0 E.P ops Q (List.range' s rest.length) a w
 | [],s,log,F,H,I,ρ,a,w,_,hnow,hrun=>by simp only[runOps,Bool.not_false,Bool.true_or,cond_true]at hrun;simp only[List.length_nil,List.range'_zero,wpOpsIn];exact hQ F H I ρ a w hnow hrun
 |o::rest,s,log,F,H,I,ρ,a,w,hrest,hnow,hrun=>by
  have ho:ops[s]?=some o:=by
   have:(ops.toList.drop s)[0]?=some o:=by rw[←hrest];rfl
   rw[List.getElem?_drop]at this;simpa using this
  have hrest':rest=ops.toList.drop (s+1):=by
   have:(ops.toList.drop s).drop 1=rest:=by rw[←hrest];rfl
   rw[List.drop_drop]at this;exact this.symm
  rw[List.length_cons,List.range'_succ];unfold runOps at hrun;rw[cond_eq_ite]at hrun;split at hrun
  case isFalse=>cases hrun
  rename_i hd;have ih:=λlog F H I ρ a w hnow hrun=>runOps_seq (ro:=ro) ok hcall hQ rest (s+1) log F H I ρ a w hrest' hnow hrun;have exec:∀F0,Now E e N F0 H I ρ a w→(match stepOp E false call F0 H o.op with
   |some (v,H',l)=>runOps E false N call ops.toList rest (l::log) (setF F0 o.dst v) H' k
   |none=>none)=some r→Region.wanted o (yielded ops a.tmps)=true→wpOpsIn (wf ro) 0 E.P ops Q (s::List.range' (s+1) rest.length) a w:=by
   intro F0 hn0 hr hw;split at hr
   case h_2=>cases hr
   rename_i v H' l hs;exact wpOps_here ho hw (stepOp_ok ok hcall hn0 hs hd (λI' ρ' a' w' hn'=>ih _ _ _ I' ρ' a' w' hn' hr))
  have skip:∀F0 log',Now E e N F0 H I ρ a w→runOps E false N call ops.toList rest log' (setF F0 o.dst (.tuple [])) H k=some r→Region.wanted o (yielded ops a.tmps)=false→
   wpOpsIn (wf ro) 0 E.P ops Q (s::List.range' (s+1) rest.length) a w:=by
   intro F0 log' hn0 hr hw;exact wpOps_skip ho hw (ih _ _ _ I ρ _ w (hn0.skip hd) hr)
  split at hrun
  ·rename_i hg;exact exec F hnow hrun (by simp[Region.wanted,hg])
  ·rename_i j want hg;split at hrun
   case h_1=>cases hrun
   rename_i d hgs;obtain⟨hy1,hy2⟩:=yielded_of hnow hgs;split at hrun
   ·rename_i b hb;have hyb:=hy1 b hb;have hvb:=hnow.frm.2 d;rw[hb]at hvb;have hw:Region.wanted o (yielded ops a.tmps)=(b==want):=by simp[Region.wanted,hg,hyb]
    cases b
    ·simp only[cond_false]at hrun;have hn0:=hnow.refine (d:=d) (v:=.bool false) hvb;cases want
     ·simp only[cond_false]at hrun;exact exec _ hn0 hrun (by rw[hw];rfl)
     ·simp only[cond_true]at hrun;exact skip _ _ hn0 hrun (by rw[hw];rfl)
    ·simp only[cond_true]at hrun;have hn0:=hnow.refine (d:=d) (v:=.bool true) hvb;cases want
     ·simp only[cond_false]at hrun;exact skip _ _ hn0 hrun (by rw[hw];rfl)
     ·simp only[cond_true]at hrun;exact exec _ hn0 hrun (by rw[hw];rfl)
   ·rename_i hb;have hyb:=hy2 hb;exact skip F _ hnow hrun (by simp[Region.wanted,hg,hyb])
   ·cases hrun
end
end Go.Ax
/- AxGc: what may be forgotten: slots behind a region, blocks at a loop's head. -/
namespace Go.Ax
section
variable {E:Env}{e:Entry}{N:Nat}{F:Frm}{H:Heap}{I:Nat→Prop}{ρ:PMap}{a:Act}{w:World}
theorem getF_keep(F:Frm):∀(keep:List Nat) (s:Nat),getF (keepF keep F) s=if keep.contains s then getF F s else .junk
 | [],s=>by simp[keepF,getF]
 |t::keep,s=>by
  have ih:=getF_keep F keep s;simp only[keepF]at ih⊢;simp only[List.map_cons,getF,nbeq,ih];by_cases hts:t=s
  ·subst hts;simp
  ·have:(s==t)=false:=by simpa using λh=>hts h.symm
   have hc:(t::keep).contains s=keep.contains s:=by rw[List.contains_cons,this,Bool.false_or]
   rw[hc,beq_eq_false_iff_ne.2 hts];rfl
theorem Now.keep(h:Now E e N F H I ρ a w)(keep:List Nat):Now E e N (keepF keep F) H I ρ a w:=
 { h with frm:=⟨h.frm.1,λs=>by
  rw[getF_keep];split
  ·exact h.frm.2 s
  ·simp[VRel]⟩ }
theorem getF_ren(π:Nat→Option Nat):∀(F:Frm) (s:Nat),getF (renF π F) s=ren π (getF F s)
 | [],s=>by simp[renF,getF,ren]
 |(t,v)::F,s=>by have ih:=getF_ren π F s;simp only[renF]at ih⊢;simp only[List.map_cons,getF,nbeq,ih];cases h:(t==s)<;>simp
theorem Now.gc(h:Now E e N F H I ρ a w){σ:List Nat}(hn:σ.Nodup)(hlow:∀b∈σ,e.m≤b) :
 ∃ρ',Now E e N (renF (gcPi e.m σ) F) (gcH e.m σ H) I ρ' a w:=by
 have hlen:(gcH e.m σ H).length=e.m+σ.length:=by have:=h.low;simp[gcH,smallH];omega
 have hπ:∀b b' m,gcPi e.m σ b=some b'→ρ b=some m→(if b'<e.m then ρ b' else(σ[b'-e.m]?).bind ρ)=some m:=by
  intro b b' m hp hb;simp only[gcPi]at hp;rw[cond_eq_ite]at hp;split at hp
  ·rename_i hlt;cases hp;rw[if_pos (by simpa[Nat.blt_eq]using hlt)];exact hb
  ·obtain⟨j,hj,rfl⟩:=map_some_inv hp;rw[if_neg (by omega),Nat.add_sub_cancel_left,idxOf_get hj];exact hb
 refine⟨λb=>if b<e.m then ρ b else(σ[b-e.m]?).bind ρ,h.imm,λb hb=>?_,h.ext,?_,?_,?_,?_,h.marks⟩
 ·show(if b<e.m then ρ b else _)=_;rw[if_pos hb];exact h.map b hb
 ·refine h.rel.rename (π:=gcPi e.m σ) hπ ?_ ?_
  ·intro b' o' ho;simp only[HeapF,gcH]at ho;have hml:(H.take e.m).length=e.m:=by have:=h.low;simp;omega
   rcases Nat.lt_or_ge b' e.m with hb|hb
   ·rw[List.getElem?_append_left (by rw[List.length_map,hml];exact hb),List.getElem?_map,List.getElem?_take,if_pos hb]at ho;cases hx:H[b']? with
    |none=>rw[hx]at ho;simp at ho
    |some ob=>rw[hx]at ho;simp only[Option.map_some,Option.join_some]at ho;obtain⟨o,rfl,rfl⟩:=map_some_inv ho;refine⟨b',o,by simp[HeapF,hx],?_,rfl⟩;simp only[gcPi];rw[cond_eq_ite,if_pos (by simpa[Nat.blt_eq]using hb)]
   ·rw[List.getElem?_append_right (by rw[List.length_map,hml];exact hb)]at ho;simp only[List.length_map,hml,smallH,List.getElem?_map]at ho;cases hx:σ[b'-e.m]? with
    |none=>rw[hx]at ho;simp at ho
    |some b=>rw[hx]at ho;simp only[Option.map_some,Option.join_some]at ho;obtain⟨o,ho1,rfl⟩:=map_some_inv ho;refine⟨b,o,ho1,?_,rfl⟩;have hbl:=hlow b (List.mem_of_getElem? hx);simp only[gcPi];rw[cond_eq_ite,if_neg (by simpa[Nat.blt_eq]using hbl),idxOf_of_get hn hx];simp only[Option.map_some,Option.some.injEq];omega
  ·intro b m hb;split at hb
   ·exact h.rel.dom b m hb
   ·cases hx:σ[b-e.m]? with
    |none=>rw[hx]at hb;simp at hb
    |some b'=>rw[hx]at hb;exact h.rel.dom b' m hb
 ·intro b hb;rw[hlen]at hb;show(if b<e.m then ρ b else _)=_;rw[if_neg (by omega),List.getElem?_eq_none (by omega)];rfl
 ·refine⟨h.frm.1,λs=>?_⟩;rw[getF_ren];exact VRel.ren hπ _ (h.frm.2 s)
 ·rw[hlen];omega
theorem frz_low{H:Heap}{m b:Nat}{o':AObj}(hb:HeapF (frzH m H) b=some o'):∃o,b<m∧HeapF H b=some o∧o'=deepO m (frzD (HeapF H) m 12) o:=by
 simp only[HeapF,frzH,List.getElem?_map,List.getElem?_take]at hb;split at hb
 case isFalse=>simp at hb
 rename_i hlt;cases hx:H[b]? with
 |none=>rw[hx]at hb;simp at hb
 |some ob=>rw[hx]at hb;simp only[Option.map_some,Option.join_some]at hb;obtain⟨o,rfl,rfl⟩:=map_some_inv hb;exact⟨o,hlt,by simp[HeapF,hx],rfl⟩
theorem getF_frz(m:Nat)(H:Heap):∀(F:Frm) (s:Nat),getF (frzF m H F) s = .junk∨getF (frzF m H F) s=frzS m H (getF F s)
 | [],s=>.inl (by simp[frzF,getF])
 |(t,v)::F,s=>by
  have ih:=getF_frz m H F s;simp only[frzF]at ih⊢;simp only[List.map_cons,getF,nbeq];cases h:(t==s)
  ·simpa using ih
  ·right;simp
theorem Now.frz(h:Now E e N F H I ρ a w)(j:Nat):∃I' ρ',Now E e N (frzF (e.m+j) H F) (frzH (e.m+j) H) I' ρ' a w:=by
 have hlen:(frzH (e.m+j) H).length=min (e.m+j) H.length:=by simp[frzH]
 have hlow:∀b o',HeapF (frzH (e.m+j) H) b=some o'→∃o,b<e.m+j∧HeapF H b=some o∧o'=deepO (e.m+j) (frzD (HeapF H) (e.m+j) 12) o:=λb o' hb=>frz_low hb;refine⟨Frozen I ρ (HeapF H) (e.m+j),ρ.below (e.m+j) true,λc hc=>.inl (h.imm c hc),λb hb=>?_,h.ext,?_,?_,⟨h.frm.1,λs=>?_⟩,by rw[hlen];have:=h.low;omega,h.marks.mono (λ_ h=>.inl h) (λ_ _=>rfl)⟩
 ·rw[←h.map b hb];have:b<e.m+j:=by omega
  simp[PMap.below,this]
 ·exact frozen_deep h.rel hlow
 ·intro b hb;rw[hlen]at hb;simp only[PMap.below];split
  ·exact h.nrel b (by omega)
  ·rfl
 ·rcases getF_frz (e.m+j) H F s with h1|h1
  ·rw[h1];simp[VRel]
  ·rw[h1];simp only[frzS];cases hv:frzV (e.m+j) true (frzD (HeapF H) (e.m+j) 12) (getF F s)with
   |none=>simp[VRel]
   |some v'=>exact(frozen_ok (h':=λ_=>none) h.rel hv (h.frm.2 s) (λ_ _ h=>by cases h)).2
theorem Now.drew(h:Now E e N F H I ρ a w):Now E e N F H I ρ a { w with drawn:=w.drawn+1 }:=by
 have s:SameMem w { w with drawn:=w.drawn+1 }:=⟨rfl,rfl,rfl,rfl⟩
 exact⟨h.imm,h.map,h.ext.trans h.imm (s.ext I e.K),h.rel.same s,h.nrel,FRel.mono h.frm (λv c hv=>VRel.mono (w:=w) (w':={ w with drawn:=w.drawn+1 }) (λ_ h=>h) (λ_ _=>rfl) v (λ_ _ h=>h) hv),h.low,h.marks⟩
end
/-! ### a loop that is counted -/
theorem wp_loop_n{ro:Option Nat}{P:Program}{c:Code}{Q:Exit→Act→World→Prop}(Inv:Nat→Act→World→Prop)
 (round:∀n a w,Inv (n+1) a w→c.wpIn (wf ro) 0 P (Exit.then (Inv n) Q) a w)(zero:∀a w,¬Inv 0 a w){n:Nat}{a:Act}{w:World}(h:Inv n a w):(Code.loop c).wpIn (wf ro) 0 P Q a w:=by
 have key:∀n a w,Inv n a w→Code.roundsIn (wf ro) 0 P c Q n a w:=by
  intro n
  induction n with
  |zero=>intro a w h;exact absurd h (zero a w)
  |succ n ih=>
   intro a w hI;rw[roundsIn_succ];refine wpIn_mono (round n a w hI) ?_;intro e a w hq;cases e with
   |normal=>exact ih a w hq
   |_=>exact hq
 exact wpIn_loop_rounds n (key n a w h)
end Go.Ax
/- AxLoc: what an operation looks at: the slots of its operands, the blocks that its operands name. -/
namespace Go.Ax
section
variable {E:Env}{n:Nat}{h h':FHeap}
theorem arowsOf_local{x:AV}(k:Nat)(hh:∀b∈topRef x,h b=h' b):arowsOf h k x=arowsOf h' k x:=by cases x<;>simp only[topRef,List.mem_singleton,forall_eq]at hh<;>simp only[arowsOf];rw[hh]
theorem alen_local{x:AV}(t:TypeId)(hh:∀b∈topRef x,h b=h' b):alen E h t x=alen E h' t x:=by unfold alen;generalize E.und t=u;cases x<;>simp only[topRef,List.mem_singleton,forall_eq]at hh<;>(rcases u with _|d;· rfl)<;>cases d<;>first|rfl|(simp only[hh];done)
theorem aload_local{x:AV}(t:TypeId)(hh:∀b∈topRef x,h b=h' b):aload E h t x=aload E h' t x:=by cases x<;>simp only[topRef,List.mem_singleton,forall_eq]at hh<;>simp only[aload];rw[hh]
theorem astore_local{p x:AV}(t:TypeId)(hh:∀b∈topRef p,h b=h' b):astore E h t p x=astore E h' t p x:=by cases p<;>simp only[topRef,List.mem_singleton,forall_eq]at hh<;>simp only[astore];rw[hh]
theorem aslice_local{x:AV}(t:TypeId)(lo hi mx:Option AV)(hh:∀b∈topRef x,h b=h' b):aslice E h t x lo hi mx=aslice E h' t x lo hi mx:=by unfold aslice;generalize E.und t=u;cases x<;>simp only[topRef,List.mem_singleton,forall_eq]at hh<;>(rcases u with _|d;· rfl)<;>cases d<;>first|rfl|(simp only[hh];done)
theorem aindexAddr_local{x:AV}(t:TypeId)(i:AV)(hh:∀b∈topRef x,h b=h' b):aindexAddr E h t x i=aindexAddr E h' t x i:=by unfold aindexAddr;generalize E.und t=u;cases x<;>simp only[topRef,List.mem_singleton,forall_eq]at hh<;>(rcases u with _|d;· rfl)<;>cases d<;>first|rfl|(simp only[hh];done)
theorem amapOf_local{x:AV}(hh:∀b∈topRef x,h b=h' b):amapOf h x=amapOf h' x:=by cases x<;>simp only[topRef,List.mem_singleton,forall_eq]at hh<;>simp only[amapOf];rw[hh]
theorem alookup_local{x:AV}(t:TypeId)(k:AV)(ok:Bool)(hh:∀b∈topRef x,h b=h' b):alookup E h t x k ok=alookup E h' t x k ok:=by simp only[alookup,amapOf_local hh]
theorem apairs_local{x:AV}(t:TypeId)(k:AV)(hh:∀b∈topRef x,h b=h' b):apairs E h t x k=apairs E h' t x k:=by unfold apairs;generalize E.und t=u;cases x<;>simp only[topRef,List.mem_singleton,forall_eq]at hh<;>(rcases u with _|d;· rfl)<;>cases d<;>first|rfl|(simp only[hh];done)
theorem aentryStore_local{x:AV}(s v:AV)(hh:∀b∈topRef x,h b=h' b):aentryStore h x s v=aentryStore h' x s v:=by
 unfold aentryStore;split
 ·rw[hh _ (by simp[topRef])]
 ·rfl
theorem usetOf_local{x:AV}(hh:∀b∈topRef x,h b=h' b):usetOf h x=usetOf h' x:=by cases x<;>simp only[topRef,List.mem_singleton,forall_eq]at hh<;>simp only[usetOf];rw[hh]
theorem alookS_local{x:AV}(t:TypeId)(k:AV)(ok:Bool)(hh:∀b∈topRef x,h b=h' b):alookS E h t x k ok=alookS E h' t x k ok:=by simp only[alookS,usetOf_local hh]
theorem aupdS_local{x:AV}(t:TypeId)(k v:AV)(hh:∀b∈topRef x,h b=h' b):aupdS E h t x k v=aupdS E h' t x k v:=by
 unfold aupdS;split
 ·rw[hh _ (by simp[topRef])]
 ·rfl
theorem adelS_local{x:AV}(t:TypeId)(k:AV)(hh:∀b∈topRef x,h b=h' b):adelS E h t x k=adelS E h' t x k:=by
 unfold adelS;split
 ·rw[hh _ (by simp[topRef])]
 ·rfl
theorem aentryS_local{x:AV}(hh:∀b∈topRef x,h b=h' b):aentryS h x=aentryS h' x:=by
 unfold aentryS;split
 ·rw[hh _ (by simp[topRef])]
 ·rfl
theorem anext_local{x:AV}(s:Bool)(hh:∀b∈topRef x,h b=h' b):anext h x s=anext h' x s:=by
 unfold anext;split
 ·rw[hh _ (by simp[topRef])]
 ·rfl
theorem aconvH_local{x:AV}(s d:TypeId)(hh:∀b∈topRef x,h b=h' b):aconvH E h s d x=aconvH E h' s d x:=by
 have key:=λk=>arowsOf_local k hh;unfold aconvH;split
 ·rfl
 ·rw[key]
 ·rfl
theorem aappend_local{s x:AV}(st xt:TypeId)(hs:∀b∈topRef s,h b=h' b)(hx:∀b∈topRef x,h b=h' b):aappend E h n st xt s x=aappend E h' n st xt s x:=by cases s<;>simp only[topRef,List.mem_singleton,forall_eq]at hs<;>simp only[aappend,arowsOf_local _ hx];rw[hs]
theorem acopy_local{d x:AV}(dt:TypeId)(hs:∀b∈topRef d,h b=h' b)(hx:∀b∈topRef x,h b=h' b):acopy E h dt d x=acopy E h' dt d x:=by cases d<;>simp only[topRef,List.mem_singleton,forall_eq]at hs<;>simp only[acopy,arowsOf_local _ hx];rw[hs]
theorem aclear_local{x:AV}(t:TypeId)(hh:∀b∈topRef x,h b=h' b):aclear E h t x=aclear E h' t x:=by unfold aclear;generalize E.und t=u;cases x<;>simp only[topRef,List.mem_singleton,forall_eq]at hh<;>(rcases u with _|d;· rfl)<;>cases d<;>first|rfl|(simp only[hh];done)
theorem ablt_local(b:Builtin)(ts:List TypeId)(args:List AV)(hh:∀b∈args.flatMap topRef,h b=h' b):ablt E n h b ts args=ablt E n h' b ts args:=by
 unfold ablt;split
 ·rw[alen_local _ (λb hb=>hh b (by simpa using hb))]
 ·rfl
 ·rw[aappend_local _ _ (λb hb=>hh b (by simp[hb])) (λb hb=>hh b (by simp[hb]))]
 ·rw[acopy_local _ (λb hb=>hh b (by simp[hb])) (λb hb=>hh b (by simp[hb]))]
 ·rw[aclear_local _ (λb hb=>hh b (by simpa using hb))]
 ·rw[adelS_local _ _ (λb hb=>hh b (by simp[hb]))]
 ·rfl
 ·rfl
 ·rfl
theorem aop_local{op:Op}{v:Operand→AV}(hh:∀b∈aneeds op v,h b=h' b):aop E n h op v=aop E n h' op v:=by
 cases op<;>simp only[aneeds]at hh<;>simp only[aop]
 case load=>rw[aload_local _ hh]
 case store=>rw[astore_local _ hh]
 case convert=>rw[aconvH_local _ _ hh]
 case slice=>rw[aslice_local _ _ _ _ hh]
 case indexAddr=>rw[aindexAddr_local _ _ hh]
 case lookup=>rw[alookup_local _ _ _ hh,alookS_local _ _ _ hh]
 case mapUpdate=>simp only[amapUpdate,apairs_local _ _ hh,aupdS_local _ _ _ hh]
 case insert=>simp only[amapUpdate,apairs_local _ _ hh,aupdS_local _ _ _ hh]
 case mapEntry=>simp only[amapEntry,apairs_local _ _ hh]
 case entryStore=>rw[aentryStore_local _ _ hh]
 case next=>rw[anext_local _ hh]
 case entry=>rw[aentryS_local hh]
 case call c=>
  obtain⟨callee,args,ts⟩:=c;cases callee with
  |builtin b=>simp only at hh⊢;exact ablt_local _ _ _ (by simpa[List.flatMap_map]using hh)
  |_=>rfl
theorem aop_congr{op:Op}{v v':Operand→AV}(hv:∀x∈op.operands,v x=v' x):aop E n h op v=aop E n h op v':=by
 have pairs:∀ps:Array (Nat×Operand),(∀x∈(ps.toList.map (·.2)).toArray,v x=v' x)→(ps.toList.map λp=>(p.1,v p.2))=(ps.toList.map λp=>(p.1,v' p.2)):=λps hp=>List.map_congr_left λp hm=>by rw[hp p.2 (by simp only[List.mem_toArray,List.mem_map];exact⟨p,hm,rfl⟩)]
 cases op<;>simp only[Op.operands]at hv<;>simp only[aop]
 case build t ps=>rw[pairs ps hv]
 case buildSlice t n ps=>rw[pairs ps hv]
 case makeFunc fn first captured=>rw[List.map_congr_left (l:=first.toList) λx hx=>hv x (by simp only[Array.mem_append];exact .inl (by simpa using hx)),List.map_congr_left (l:=captured.toList) λx hx=>hv x (by simp only[Array.mem_append];exact .inr (by simpa using hx))]
 case call c=>
  obtain⟨callee,args,ts⟩:=c;cases callee with
  |builtin b=>simp only;rw[List.map_congr_left (l:=args.toList) λx hx=>hv x (by simp only[Call.operands];simp;simpa using hx)]
  |_=>rfl
 case makeMap t r=>cases r<;>simp_all
 case slice t x lo hi mx=>cases lo<;>cases hi<;>cases mx<;>simp_all
 all_goals (first|rfl|(simp_all;done))
end
end Go.Ax
/- AxOrd: operations in any order that their edges allow: what the executed ones amount to, in text order. -/
namespace Go.Ax
/-! ### lists that grow at the front, numbered from the back -/
section
variable {R V:Type}
def nth:List R→Nat→Option R
 | [],_=>none
 |r::rest,j=>if j=rest.length then some r else nth rest j
def pre:List R→Nat→List R
 | [],_=>[]
 |_::rest,i=>if i=rest.length then rest else pre rest i
theorem nth_lt:∀{l:List R} {i:Nat} {r:R},nth l i=some r→i<l.length
 | [],i,r,h=>by simp[nth]at h
 |a::rest,i,r,h=>by
  unfold nth at h;split at h
  ·simp;omega
  ·have:=nth_lt h;simp;omega
theorem nth_some:∀{l:List R} {i:Nat},i<l.length→∃r,nth l i=some r
 | [],i,h=>by simp at h
 |a::rest,i,h=>by
  unfold nth;split
  ·exact⟨a,rfl⟩
  ·exact nth_some (by simp at h;omega)
theorem nth_tail{a:R}{l:List R}{i:Nat}{r:R}(h:nth l i=some r):nth (a::l) i=some r:=by have:=nth_lt h;unfold nth;rw[if_neg (by omega)];exact h
theorem nth_head(a:R)(l:List R):nth (a::l) l.length=some a:=by simp[nth]
def gL(o:R→Nat→Option V)(g0:Nat→V)(S:Nat→Bool):List R→Nat→V
 | []=>g0
 |r::rest=>if S rest.length then λs=>(o r s).getD (gL o g0 S rest s)else gL o g0 S rest
def every:Nat→Bool:=λ_=>true
def plus(S:Nat→Bool)(i:Nat):Nat→Bool:=λj=>j==i||S j
variable {o:R→Nat→Option V}{g0:Nat→V}{S:Nat→Bool}
theorem gL_every{s:Nat}:∀{l:List R},(∀j r',nth l j=some r'→(o r' s).isSome→S j=true)→gL o g0 S l s=gL o g0 every l s
 | [],_=>rfl
 |a::rest,h=>by
  have ih:=gL_every (l:=rest) (λj r' hj=>h j r' (nth_tail hj));simp only[gL,every];cases ha:o a s with
  |none=>split<;>simp[ha,ih]
  |some v=>rw[h _ a (nth_head a rest) (by simp[ha])];simp[ha]
theorem gL_at{i s:Nat}{r:R}:∀{l:List R},nth l i=some r→(∀j r',nth l j=some r'→(o r' s).isSome→(j<i→S j=true)∧(i≤j→S j=false))→
 gL o g0 S l s=gL o g0 every (pre l i) s
 | [],h,_=>by simp[nth]at h
 |a::rest,h,hs=>by
  have hhead:i≤rest.length→gL o g0 S (a::rest) s=gL o g0 S rest s:=by
   intro hi;simp only[gL];split
   ·rename_i hS;cases ha:o a s with
    |none=>simp[ha]
    |some v=>rw[(hs _ a (nth_head a rest) (by simp[ha])).2 hi]at hS;cases hS
   ·rfl
  unfold nth at h;split at h
  ·rename_i hi;subst hi;rw[hhead (Nat.le_refl _)];simp only[pre,if_true];exact gL_every (λj r' hj ho=>(hs j r' (nth_tail hj) ho).1 (nth_lt hj))
  ·rename_i hi;have:=nth_lt h;rw[hhead (by omega)];simp only[pre,if_neg hi];exact gL_at h (λj r' hj ho=>hs j r' (nth_tail hj) ho)
theorem gL_same{S':Nat→Bool}:∀{l:List R},(∀j,j<l.length→S j=S' j)→gL o g0 S l=gL o g0 S' l
 | [],_=>rfl
 |a::rest,h=>by simp only[gL];rw[h rest.length (by simp),gL_same (l:=rest) (λj hj=>h j (by simp;omega))]
theorem gL_add{i:Nat}{r:R}:∀{l:List R},nth l i=some r→S i=false→(∀k r',nth l k=some r'→i<k→S k=true→∀s,(o r s).isSome→o r' s=none)→
 gL o g0 (plus S i) l=λs=>(o r s).getD (gL o g0 S l s)
 | [],h,_,_=>by simp[nth]at h
 |a::rest,h,hS,hk=>by
  unfold nth at h;split at h
  ·rename_i hi;cases h;have:gL o g0 (plus S i) rest=gL o g0 S rest:=gL_same λj hj=>by simp[plus];omega
   simp only[gL,this];subst hi;simp[plus,hS]
  ·rename_i hi;have hlt:=nth_lt h;have ih:=gL_add h hS (λk r' hr=>hk k r' (nth_tail hr));simp only[gL,ih];have hp:plus S i rest.length=S rest.length:=by simp[plus];intro he;omega
   rw[hp];split
   ·rename_i hSr
    funext s
    cases hr:o r s with
    |none=>simp
    |some v=>rw[hk _ a (nth_head a rest) hlt hSr s (by simp[hr])];simp
   ·rfl
end
/-! ### edges -/
def SClosed(all:List Oper)(S:Nat→Bool)(j:Nat):Prop:=∀o,all[j]?=some o→∀e∈o.after.toList,Region.binds .any e=true→S e.on=true
theorem isBefore_in{all:List Oper}{S:Nat→Bool}(hS:∀j,S j=true→SClosed all S j)(i:Nat):∀n j,SClosed all S j→isBefore all i n j=true→S i=true
 |0,j,_,h=>by simp[isBefore]at h
 |n+1,j,hj,h=>by
  unfold isBefore at h;split at h
  ·rename_i o ho;simp only[List.any_eq_true,Bool.and_eq_true,Bool.or_eq_true,beq_iff_eq]at h;obtain⟨e,he,hb,h⟩:=h;have hon:=hj o ho e he hb;rcases h with rfl|h
   ·exact hon
   ·exact isBefore_in hS i n e.on (hS _ hon) h
  ·cases h
theorem ordered_in{all:List Oper}{S:Nat→Bool}(hS:∀j,S j=true→SClosed all S j){i j:Nat}(hj:SClosed all S j)(h:ordered all i j=true):S i=true:=by
 unfold ordered at h;rw[Bool.or_eq_true]at h;rcases h with h|h
 ·unfold edgeOf at h;split at h
  ·rename_i o ho;simp only[List.any_eq_true,Bool.and_eq_true,beq_iff_eq]at h;obtain⟨e,he,hb,rfl⟩:=h;exact hj o ho e he hb
  ·cases h
 ·exact isBefore_in hS i _ j hj h
theorem logRow_ok{all:List Oper}{j:Nat}{y:LogE}:∀{l:List LogE},logOk.logRow all j y l.length l=true→∀i x,nth l i=some x→x.clash y=true→ordered all i j=true
 | [],_,i,x,h,_=>by simp[nth]at h
 |a::rest,hl,i,x,h,hc=>by
  simp only[List.length_cons,logOk.logRow,Bool.and_eq_true,Bool.or_eq_true,Bool.not_eq_true']at hl;unfold nth at h;split at h
  ·rename_i hi;cases h;subst hi;rcases hl.1 with h'|h'
   ·rw[hc]at h';cases h'
   ·exact h'
  ·exact logRow_ok hl.2 i x h hc
theorem logOk_ok{all:List Oper}:∀{l:List LogE},logOk all l.length l=true→∀i j x y,i<j→nth l i=some x→nth l j=some y→x.clash y=true→ordered all i j=true
 | [],_,i,j,x,y,_,h,_,_=>by simp[nth]at h
 |a::rest,hl,i,j,x,y,hij,hi,hj,hc=>by
  simp only[List.length_cons,logOk,Bool.and_eq_true]at hl;unfold nth at hj;split at hj
  ·rename_i hjr;cases hj;subst hjr;unfold nth at hi;rw[if_neg (by omega)]at hi;exact logRow_ok hl.1 i x hi hc
  ·have:=nth_lt hj;unfold nth at hi;rw[if_neg (by omega)]at hi;exact logOk_ok hl.2 i j x y hij hi hj hc
/-! ### what is asked of a region's text -/
def tmpsOf(l:List Operand):List Nat:=l.filterMap λ|.tmp t=>some t|_=>none
def looks(all:List Oper)(o:Oper):List Nat:=
 tmpsOf o.op.operands.toList++(match o.guard with
  |some (g,_)=>(guardSlot all g).toList
  |none=>[])
def slotsMeet(all:List Oper)(x y:Oper):Bool:=
 (match x.dst with|some d=>(looks all y).contains d|none=>false) ||
 (match y.dst with|some d=>(looks all x).contains d|none=>false) ||
 (match x.dst,y.dst with|some d,some d'=>d==d'|_,_=>false)
def drawRow(all:List Oper)(j:Nat)(y:Oper):Nat→List Oper→Bool
 |_,[]=>true
 |i,x::r=>(Nat.ble j i || !(slotsMeet all x y)||ordered all i j)&&drawRow all j y (i+1) r
def drawRows(all:List Oper):Nat→List Oper→Bool
 |_,[]=>true
 |j,y::r=>y.after.toList.all (λe=>!(Region.binds .any e)||Nat.blt e.on j)&&drawRow all j y 0 all&&drawRows all (j+1) r
def drawOk(all:List Oper):Bool:=drawRows all 0 all
theorem drawRow_ok{all:List Oper}{j:Nat}{y:Oper}:∀{l:List Oper} {s:Nat},drawRow all j y s l=true→∀i x,l[i]?=some x→s+i<j→slotsMeet all x y=true→ordered all (s+i) j=true
 | [],s,_,i,x,h,_,_=>by simp at h
 |a::r,s,hl,0,x,h,hij,hm=>by
  simp only[drawRow,Bool.and_eq_true,Bool.or_eq_true,Bool.not_eq_true',Nat.ble_eq]at hl;simp only[List.getElem?_cons_zero,Option.some.injEq]at h;subst h;rcases hl.1 with (h|h)|h
  ·omega
  ·rw[hm]at h;cases h
  ·exact h
 |a::r,s,hl,i+1,x,h,hij,hm=>by simp only[drawRow,Bool.and_eq_true]at hl;have:=drawRow_ok hl.2 i x (by simpa using h) (by omega) hm;rw[show s+(i+1)=s+1+i by omega];exact this
theorem drawRows_ok{all:List Oper}:∀{l:List Oper} {s:Nat},drawRows all s l=true→∀j y,l[j]?=some y→
 (∀e∈y.after.toList,Region.binds .any e=true→e.on<s+j)∧∀i x,all[i]?=some x→i<s+j→slotsMeet all x y=true→ordered all i (s+j)=true
 | [],s,_,j,y,h=>by simp at h
 |a::r,s,hl,0,y,h=>by simp only[drawRows,Bool.and_eq_true,List.all_eq_true,Bool.or_eq_true,Bool.not_eq_true',Nat.blt_eq]at hl;simp only[List.getElem?_cons_zero,Option.some.injEq]at h;subst h;refine⟨λe he hb=>(hl.1.1 e he).resolve_left (by simp[hb]),λi x hx hi hm=>?_⟩;have:=drawRow_ok hl.1.2 i x hx (by omega) hm;simpa using this
 |a::r,s,hl,j+1,y,h=>by simp only[drawRows,Bool.and_eq_true]at hl;have:=drawRows_ok hl.2 j y (by simpa using h);rw[show s+(j+1)=s+1+j by omega];exact this
theorem drawOk_ok{all:List Oper}(h:drawOk all=true){j:Nat}{y:Oper}(hy:all[j]?=some y) :
 (∀e∈y.after.toList,Region.binds .any e=true→e.on<j)∧∀i x,all[i]?=some x→i<j→slotsMeet all x y=true→ordered all i j=true:=by
 have:=drawRows_ok h j y hy;simpa using this
end Go.Ax
/- AxDraw: a region that draws its order: one run in text order stands for every order. -/
namespace Go.Ax
theorem aop_still{E:Env}{n n':Nat}{h:FHeap}{op:Op}{v:Operand→AV}{x:AV}{e:Eff}(ha:aop E n h op v=some (x,e))(he:e.fresh=false):aop E n' h op v=some (x,e):=by
 have app:∀st xt s y,aappend E h n st xt s y=some (x,e)→aappend E h n' st xt s y=some (x,e):=by
  intro st xt s y hy;unfold aappend at hy⊢;simp only[cond_eq_ite]at hy⊢
  repeat' split at hy
  all_goals first
   |(cases hy;done)
   |(cases hy;simp[Eff.fresh]at he;done)
   |(simp_all;done)
   |(simp_all;rename_i hh;exact hh.2)
 have appZ:∀st xt s y,aappendZ E n st xt s y=some (x,e)→aappendZ E n' st xt s y=some (x,e):=by
  intro st xt s y hy;unfold aappendZ at hy⊢;simp only[cond_eq_ite]at hy⊢
  repeat' split at hy
  all_goals first
   |(cases hy;done)
   |(cases hy;simp[Eff.fresh]at he;done)
   |(simp_all;done)
 have blt:∀b ts args,ablt E n h b ts args=some (x,e)→ablt E n' h b ts args=some (x,e):=by
  intro b ts args hb;unfold ablt at hb⊢;split at hb
  all_goals first
   |exact hb
   |exact app _ _ _ _ hb
   |(rcases oor_inv hb with hb|hb<;>first|(rw[app _ _ _ _ hb];rfl)|(rw[aappendZ_no hb n' h,appZ _ _ _ _ hb];rfl))
 cases op
 case alloc t=>
  simp only[aop,anew,cond_eq_ite]at ha
  repeat' split at ha
  all_goals cases ha
  all_goals simp[Eff.fresh]at he
 case box t y=>
  simp only[aop,abox,cond_eq_ite]at ha
  repeat' split at ha
  all_goals cases ha
  all_goals simp[Eff.fresh]at he
 case buildSlice=>
  simp only[aop,abuildSlice,cond_eq_ite]at ha
  repeat' split at ha
  all_goals cases ha
  all_goals simp[Eff.fresh]at he
 case makeMap=>
  simp only[aop]at ha
  repeat' split at ha
  all_goals cases ha
  all_goals simp[Eff.fresh]at he
 case makeSlice=>
  simp only[aop,amakeSlice,cond_eq_ite]at ha
  repeat' split at ha
  all_goals cases ha
  all_goals simp[Eff.fresh]at he
 case range=>
  simp only[aop]at ha;rcases oor_inv ha with ha|ha
  ·simp only[arange]at ha
   repeat' split at ha
   all_goals cases ha
   all_goals simp[Eff.fresh]at he
  ·simp only[arangeS,cond_eq_ite]at ha
   repeat' split at ha
   all_goals cases ha
   all_goals simp[Eff.fresh]at he
 case call c=>
  obtain⟨callee,args,ts⟩:=c;cases callee with
  |builtin b=>exact blt _ _ _ ha
  |_=>cases ha
 all_goals exact ha
structure Rec where
 dst:Option Nat
 v:AV
 ov:Nat→Option (Option AObj)
 fresh:Nat
 log:LogE
def fov(r:Rec)(s:Nat):Option AV:=if r.dst=some s then some r.v else none
def hov(r:Rec)(b:Nat):Option (Option AObj):=r.ov b
def cnt(m0:Nat):List Rec→Nat
 | []=>m0
 |r::rest=>cnt m0 rest+r.fresh
def made(m0:Nat)(S:Nat→Bool):List Rec→Nat→Prop
 | [],_=>False
 |r::rest,b=>(S rest.length=true∧cnt m0 rest≤b∧b<cnt m0 rest+r.fresh)∨made m0 S rest b
theorem made_lt{m0:Nat}{S:Nat→Bool}:∀{l:List Rec} {b:Nat},made m0 S l b→b<cnt m0 l
 | [],b,h=>h.elim
 |r::rest,b,h=>by
  simp only[cnt];rcases h with ⟨_,_,h⟩|h
  ·exact h
  ·have:=made_lt h;omega
theorem cnt_pre{m0:Nat}{i:Nat}{r:Rec}:∀{l:List Rec},nth l i=some r→cnt m0 (pre l i)+r.fresh≤cnt m0 l
 | [],h=>by simp[nth]at h
 |a::rest,h=>by
  unfold nth at h;simp only[pre,cnt];split at h
  ·rename_i hi;cases h;rw[if_pos hi];omega
  ·rename_i hi;have:=cnt_pre (m0:=m0) h;rw[if_neg hi];omega
theorem made_at{m0:Nat}{S:Nat→Bool}{i:Nat}{r:Rec}{b:Nat}:∀{l:List Rec},nth l i=some r→cnt m0 (pre l i)≤b→b<cnt m0 (pre l i)+r.fresh→made m0 S l b→S i=true
 | [],h,_,_,_=>by simp[nth]at h
 |a::rest,h,h1,h2,hm=>by
  unfold nth at h;split at h
  ·rename_i hi;cases h;simp only[pre,if_pos hi]at h1 h2;rcases hm with ⟨hS,_⟩|hm
   ·rw[hi];exact hS
   ·have:=made_lt hm;omega
  ·rename_i hi;simp only[pre,if_neg hi]at h1 h2;have:=cnt_pre (m0:=m0) h;rcases hm with ⟨_,hge,_⟩|hm
   ·omega
   ·exact made_at h h1 h2 hm
theorem made_plus{m0:Nat}{S:Nat→Bool}{i:Nat}{r:Rec}{b:Nat}:∀{l:List Rec},nth l i=some r→(made m0 S l b∨(cnt m0 (pre l i)≤b∧b<cnt m0 (pre l i)+r.fresh))→made m0 (plus S i) l b
 | [],h,_=>by simp[nth]at h
 |a::rest,h,hb=>by
  have mono:∀{l:List Rec},made m0 S l b→made m0 (plus S i) l b:=by
   intro l
   induction l with
   |nil=>exact λh=>h
   |cons a rest ih=>exact λh=>h.imp (λ⟨h1,h2⟩=>⟨by simp[plus,h1],h2⟩) ih
  unfold nth at h;rcases hb with hb|⟨hb1,hb2⟩
  ·exact mono hb
  ·split at h
   ·rename_i hi;cases h;simp only[pre,if_pos hi]at hb1 hb2;exact .inl ⟨by simp[plus,hi],hb1,hb2⟩
   ·rename_i hi;simp only[pre,if_neg hi]at hb1 hb2;exact .inr (made_plus h (.inr ⟨hb1,hb2⟩))
structure DNow(E:Env)(e:Entry)(N m0:Nat)(C:Nat→Prop)(f:Nat→AV)(h:FHeap)(I:Nat→Prop)(ρ:PMap)(a:Act)(w:World):Prop where
 imm:∀c,e.I c→I c
 map:∀b,b<e.m→ρ b=e.ρ b
 ext:Ext e.I e.K e.w w
 rel:HRel E.G I e.K ρ h w
 nrel:∀b,m0≤b→¬C b→ρ b=none
 fin:∃M,NRel ρ M
 size:a.tmps.size=N
 frm:∀s,VRel I w ρ (f s) (a.tmps.getD s undef)
 marks:Marks e I w a.defers
def opvf(E:Env)(f:Nat→AV):Operand→AV
 |.tmp t=>f t
 |.const v=>constV v
 |.global g=>match E.G g with|some cs=>.iptr cs|none=>.junk
 |.func f=>.func (.func f) [] []
section
variable {E:Env}{e:Entry}{N m0:Nat}{C:Nat→Prop}{f:Nat→AV}{h:FHeap}{I:Nat→Prop}{ρ:PMap}{a:Act}{w:World}
theorem DNow.opvf(d:DNow E e N m0 C f h I ρ a w)(x:Operand):VRel I w ρ (opvf E f x) (a.eval x):=by
 cases x with
 |tmp t=>exact d.frm t
 |const v=>exact constV_ok v
 |global g=>
  simp only[Ax.opvf,Act.eval];cases hg:E.G g with
  |none=>simp[VRel]
  |some cs=>obtain⟨h1,h2⟩:=d.rel.glob g cs hg;simp only[VRel];exact⟨g,0,rfl,h1,h2.1⟩
 |func f=>simp only[Ax.opvf,Act.eval,VRel];exact⟨#[],#[],rfl,by simp[VRels],by simp[VRels]⟩
theorem mem_tmpsOf{t:Nat}{l:List Operand}(h:Operand.tmp t∈l):t∈tmpsOf l:=by simp only[tmpsOf,List.mem_filterMap];exact⟨_,h,rfl⟩
theorem opv_agree{F:Frm}{l:List Operand}(hf:∀s∈tmpsOf l,f s=getF F s):∀x∈l,opv E F x=opvf E f x:=by
 intro x hx;cases x with
 |tmp t=>exact(hf t (mem_tmpsOf hx)).symm
 |_=>rfl
theorem put_frm{I':Nat→Prop}{w':World}{ρ':PMap}(hv:∀(v:AV) (c:Value),VRel I w ρ v c→VRel I' w' ρ' v c)(hsz:a.tmps.size=N)(hf:∀s,VRel I w ρ (f s) (a.tmps.getD s undef)){d:Option Nat}
 (hd:dstOk N d=true){v:AV}{c:Value}(hc:VRel I' w' ρ' v c):∀s,VRel I' w' ρ' ((if d=some s then some v else none).getD (f s)) ((a.put d c).tmps.getD s undef):=by
 intro s;cases d with
 |none=>simpa[Act.put]using hv _ _ (hf s)
 |some d=>
  have hlt:d<N:=by simpa[dstOk,Nat.blt_eq]using hd
  simp only[Act.put,Array.getD_eq_getD_getElem?,Array.getElem?_setIfInBounds,hsz,Option.some.injEq];split
  ·subst s;simpa[hlt]using hc
  ·have:=hv _ _ (hf s);simpa[Array.getD_eq_getD_getElem?]using this
theorem put_size{d:Option Nat}{c:Value}:(a.put d c).tmps.size=a.tmps.size:=by cases d<;>simp[Act.put]
def ovOf(n:Nat):Eff→Nat→Option (Option AObj)
 |.none,_=>none
 |.new o,b=>if b=n then some (some o)else none
 |.set b0 o,b=>if b=b0 then some (some o)else none
 |.kill b0 o,b=>if b=n then some (some o)else if b=b0 then some none else none
theorem eff_ov(h:FHeap)(n:Nat)(e:Eff):h.eff n e=λb=>(ovOf n e b).getD (h b):=by
 funext b
 cases e<;>simp only[FHeap.eff,FHeap.set,ovOf]
 ·rfl
 ·split<;>rfl
 ·split<;>rfl
 ·split
  ·rfl
  ·split<;>rfl
theorem effH_ov{H:Heap}{e:Eff}(hf:e.fits H.length=true):HeapF (effH H e)=λb=>(ovOf H.length e b).getD (HeapF H b):=by
 funext b
 cases e with
 |none=>rfl
 |new o=>
  simp only[effH,HeapF,ovOf];split
  ·subst b;simp
  ·rcases Nat.lt_or_ge b H.length with h1|h1
   ·rw[List.getElem?_append_left h1];rfl
   ·rw[List.getElem?_eq_none (by simp;omega),List.getElem?_eq_none (by omega)];rfl
 |set b1 o=>
  have hb1:b1<H.length:=by simpa[Eff.fits,Nat.blt_eq]using hf
  simp only[effH,HeapF,ovOf,List.getElem?_set];split
  ·subst b;simp[hb1]
  ·rename_i hne;rw[if_neg (λe=>hne e.symm)];rfl
 |kill b1 o=>
  have hb1:b1<H.length:=by simpa[Eff.fits,Nat.blt_eq]using hf
  simp only[effH,HeapF,ovOf];split
  ·subst b;rw[List.getElem?_append_right (by simp)];simp
  ·rcases Nat.lt_or_ge b H.length with h1|h1
   ·rw[List.getElem?_append_left (by simpa using h1),List.getElem?_set];split
    ·rename_i hne;subst hne;simp[hb1]
    ·rename_i hne hne2;rw[if_neg (λe=>hne2 e.symm)];rfl
   ·rw[List.getElem?_eq_none (by simp;omega),if_neg (by omega),List.getElem?_eq_none h1];rfl
theorem ovOf_keys{n b:Nat}{e:Eff}(h:(ovOf n e b).isSome=true):b∈e.keys n:=by
 cases e<;>simp only[ovOf]at h
 ·simp at h
 ·split at h
  ·subst b;simp[Eff.keys]
  ·simp at h
 ·split at h
  ·subst b;simp[Eff.keys]
  ·simp at h
 ·split at h
  ·subst b;simp[Eff.keys]
  ·split at h
   ·subst b;simp[Eff.keys]
   ·simp at h
end
end Go.Ax
/- AxDraw2: one operation of a region that draws its order. -/
namespace Go.Ax
section
variable {E:Env}{e:Entry}{N m0:Nat}
theorem smallF_congr{hp hp':FHeap}{σ:List Nat}(h:∀b∈σ,hp b=hp' b):smallF hp σ=smallF hp' σ:=by unfold smallF;exact List.map_congr_left λb hb=>by rw[h b hb]
def StepGood(E:Env)(ro:Option Nat)(e:Entry)(N m0 n:Nat)(o:Oper)(fp:Nat→AV)(hp:FHeap)(v:AV)(ov:Nat→Option (Option AObj))(fresh:Nat)(l:LogE):Prop:=
 ∀{C:Nat→Prop} {f:Nat→AV} {h:FHeap} {I:Nat→Prop} {ρ:PMap} {a:Act} {w:World},DNow E e N m0 C f h I ρ a w→(∀s∈tmpsOf o.op.operands.toList,f s=fp s)→(∀b∈l.needs,h b=hp b)→(∀b,n≤b→b<n+fresh→¬C b)→
  ∀{K:Act→World→Prop} {Q:Exit→Act→World→Prop},(∀I' ρ' a' w',DNow E e N m0 (λb=>C b∨(n≤b∧b<n+fresh)) (λs=>((if o.dst=some s then some v else none).getD (f s))) (λb=>(ov b).getD (h b)) I' ρ' a' w'→K a' w')→
   o.wpIn (wf ro) 0 E.P a w K Q
def Eff.nf(e:Eff):Nat:=if e.fresh=true then 1 else 0
theorem aop_good(ok:EnvOk E){ro:Option Nat}{F:Frm}{H:Heap}{o:Oper}{v:AV}{eff:Eff}(hlow:e.m≤m0)(hn0:m0≤H.length)(hd:dstOk N o.dst=true)(ha:aop E H.length (HeapF H) o.op (opv E F)=some (v,eff)) :
 StepGood E ro e N m0 H.length o (getF F) (HeapF H) v (ovOf H.length eff) eff.nf ⟨aneeds o.op (opv E F),eff.keys H.length⟩:=by
 intro C f h I ρ a w hnow hf hh hC K Q hK;have hops:=opv_agree (E:=E) hf;have hops':∀x∈o.op.operands,opv E F x=opvf E f x:=λx hx=>hops x (by simpa using hx);have ha1:aop E H.length h o.op (opvf E f)=some (v,eff):=by rw[←aop_congr hops',aop_local (h':=HeapF H) hh];exact ha
 obtain⟨M,hM⟩:=hnow.fin;obtain⟨n',hn1,hρ',ha2⟩:∃n',(eff.fresh=true→n'=H.length)∧ρ n'=none∧aop E n' h o.op (opvf E f)=some (v,eff):=by
  cases hfr:eff.fresh with
  |true=>exact⟨H.length,λ_=>rfl,hnow.nrel _ hn0 (hC _ (Nat.le_refl _) (by simp[Eff.nf,hfr])),ha1⟩
  |false=>exact⟨M,(by simp),hM _ (Nat.le_refl _),aop_still ha1 hfr⟩
 have hnone:h n'=none:=by
  cases hx:h n' with
  |none=>rfl
  |some ob=>obtain⟨m,h1,_⟩:=hnow.rel.live _ _ hx;rw[hρ']at h1;cases h1
 obtain⟨x,w',c,ρ',hrun,hx,step,hv,hm⟩:=aop_ok ok hnow.rel hnone hρ' ha2 hnow.opvf;have hov:h.eff n' eff=λb=>(ovOf H.length eff b).getD (h b):=by
  rw[eff_ov];cases hfr:eff.fresh with
  |true=>rw[hn1 hfr]
  |false=>cases eff<;>simp[Eff.fresh]at hfr<;>rfl
 have hmoves:∀b,(eff.fresh=true→b≠H.length)→ρ' b=ρ b:=by
  intro b hb;cases hfr:eff.fresh with
  |true=>exact hm.1 b (by rw[hn1 hfr];exact hb hfr)
  |false=>rw[hm.2 hfr]
 have hnew:DNow E e N m0 (λb=>C b∨(H.length≤b∧b<H.length+eff.nf)) (λs=>((if o.dst=some s then some v else none).getD (f s))) (λb=>(ovOf H.length eff b).getD (h b)) I ρ' (a.put o.dst c) w':=by
  refine⟨hnow.imm,λb hb=>?_,hnow.ext.trans hnow.imm step.ext,hov▸step.rel,λb hb hc=>?_,⟨max M (H.length+1),λb hb=>?_⟩,by rw[put_size];exact hnow.size,?_,by rw[put_defers];exact hnow.marks.mono (λ_ h=>h) (λc hc=>step.ext.keep c (.inl hc))⟩
  ·rw[hmoves b (λ_=>by omega)];exact hnow.map b hb
  ·rw[hmoves b (λhf he=>hc (.inr (by simp only[Eff.nf,hf,if_true];omega)))];exact hnow.nrel b hb (λh=>hc (.inl h))
  ·rw[hmoves b (λ_=>by omega)];exact hM b (by omega)
  ·exact put_frm (λv c hv=>step.vrel hv) hnow.size hnow.frm hd hv
 refine wpIn_of (aop_nodefer ha) ?_;rw[hrun];rcases hx with rfl|⟨rfl,rfl⟩
 ·rw[Oper.uponIn_value];exact hK I ρ' _ _ hnew
 ·rw[Oper.uponIn_skip];exact hK I ρ' _ _ hnew
theorem call_good{g:FuncId}{run:List AV→Heap→Option (AV×Heap)}(hrun:FunOk E g run){args:List AV}{H H':Heap}{v:AV}{σ:List Nat}
 (hcall:callLoc run args H=some (v,H',σ))(hlen:H'.length=H.length) :
 ∃ov:Nat→Option (Option AObj),(HeapF H'=λb=>(ov b).getD (HeapF H b))∧(∀b,(ov b).isSome=true→b∈σ)∧
  ∀{I K:Nat→Prop} {ρ:PMap} {h:FHeap} {w:World} {cargs:List Value},HRel E.G I K ρ h w→(∀b∈σ,h b=HeapF H b)→VRels I w ρ args cargs→
   XOf E g cargs w λen w'=>∃c I',en = .returned c∧(∀c,I c→I' c)∧Ext I K w w'∧HRel E.G I' K ρ (λb=>(ov b).getD (h b)) w'∧VRel I' w' ρ v c:=by
 unfold callLoc at hcall;simp only at hcall;generalize hσ:reach H reachFuel (refsL args) []=σ' at hcall;rw[cond_eq_ite]at hcall;split at hcall
 case isFalse=>cases hcall
 rename_i hc;simp only[Bool.and_eq_true,List.all_eq_true,Nat.blt_eq]at hc;obtain⟨hnd,hlt⟩:=hc;have hnd:=nodup_of hnd;split at hcall
 case h_2=>cases hcall
 rename_i v1 H1 hr;simp only[Option.some.injEq,Prod.mk.injEq]at hcall;obtain⟨rfl,rfl,rfl⟩:=hcall;have hr':run (args.map (ren (piOf σ'))) (smallF (HeapF H) σ')=some (v1,H1):=hr;have hH1:H1.length≤σ'.length:=by simp only[List.length_append,putBack_length,List.length_map,List.length_drop]at hlen;omega
 refine⟨λb=>(σ'.idxOf? b).map λj=>(HeapF H1 j).map (renObj (backOf σ' H.length)),?_,?_,?_⟩
 ·funext b
  simp only[HeapF];rcases Nat.lt_or_ge b H.length with hb|hb
  ·rw[List.getElem?_append_left (by rw[putBack_length];exact hb),putBack_get];simp only[Nat.zero_add];rw[List.getElem?_eq_getElem hb];cases hx:σ'.idxOf? b<;>simp[HeapF]
  ·rw[List.getElem?_eq_none (by simp only[List.length_append,putBack_length,List.length_map,List.length_drop];omega),List.getElem?_eq_none hb];cases hx:σ'.idxOf? b with
   |none=>rfl
   |some j=>have:=hlt b (List.mem_of_getElem? (idxOf_get hx));omega
 ·intro b hb;dsimp only at hb;cases hx:σ'.idxOf? b with
  |none=>rw[hx]at hb;simp at hb
  |some j=>exact List.mem_of_getElem? (idxOf_get hx)
 ·intro I K ρ h w cargs rel hh ha;have hr2:run (args.map (ren (piOf σ'))) (smallF h σ')=some (v1,H1):=by rw[smallF_congr hh];exact hr'
  refine XOf.mono (callCore hrun hr2 rel hnd ha) ?_
  rintro en w' ⟨c,I1,ρ1,rfl,hret,hv⟩
  have hback:∀j b m,backOf σ' H.length j=some b→ρ1 j=some m→ρ b=some m:=by
   intro j b m hj hm;rcases Nat.lt_or_ge j σ'.length with hjl|hjl
   ·simp only[backOf]at hj;rw[cond_eq_ite,if_pos (by simpa[Nat.blt_eq]using hjl)]at hj;have:=hret.map j hjl;rw[hm,hj]at this;exact this.symm
   ·rw[hret.nrel j (by omega)]at hm;cases hm
  refine⟨c,I1,rfl,hret.imm,hret.ext.keepLess (λc hc=>.inl hc),?_,VRel.ren hback v1 hv⟩;refine back_rel rel hnd hret (λ_ _ h=>h) hback (λb m hb=>.inl hb) ?_;intro b o hb;dsimp only at hb;cases hx:σ'.idxOf? b with
  |none=>rw[hx]at hb;exact .inl ⟨idxOf_none hx,hb⟩
  |some j=>rw[hx]at hb;simp only[Option.map_some,Option.getD_some]at hb;obtain⟨o1,ho1,rfl⟩:=map_some_inv hb;have hσj:=idxOf_get hx;refine .inr ⟨j,o1,?_,ho1,rfl⟩;simp only[backOf];rw[cond_eq_ite,if_pos (by simpa[Nat.blt_eq]using(List.getElem?_eq_some_iff.1 hσj).1)];exact hσj
theorem call_new{g:FuncId}{run:List AV→Heap→Option (AV×Heap)}(hrun:FunOk E g run){args:List AV}{H H':Heap}{v:AV}{σ:List Nat}
 (hcall:callLoc run args H=some (v,H',σ)){q:Nat}(hlen:H'.length=H.length+q) :
 ∃ov:Nat→Option (Option AObj),(HeapF H'=λb=>(ov b).getD (HeapF H b))∧(∀b,(ov b).isSome=true→b∈σ++List.range' H.length q)∧
  ∀{I K:Nat→Prop} {ρ:PMap} {h:FHeap} {w:World} {cargs:List Value},HRel E.G I K ρ h w→(∀b,H.length≤b→b<H.length+q→ρ b=none)→(∀b∈σ,h b=HeapF H b)→VRels I w ρ args cargs→
   XOf E g cargs w λen w'=>∃c I' ρ',en = .returned c∧(∀c,I c→I' c)∧Ext I K w w'∧(∀b,¬(H.length≤b∧b<H.length+q)→ρ' b=ρ b)∧HRel E.G I' K ρ' (λb=>(ov b).getD (h b)) w'∧VRel I' w' ρ' v c:=by
 unfold callLoc at hcall;simp only at hcall;generalize hσ:reach H reachFuel (refsL args) []=σ' at hcall;rw[cond_eq_ite]at hcall;split at hcall
 case isFalse=>cases hcall
 rename_i hc;simp only[Bool.and_eq_true,List.all_eq_true,Nat.blt_eq]at hc;obtain⟨hnd,hlt⟩:=hc;have hnd:=nodup_of hnd;split at hcall
 case h_2=>cases hcall
 rename_i v1 H1 hr;simp only[Option.some.injEq,Prod.mk.injEq]at hcall;obtain⟨rfl,rfl,rfl⟩:=hcall;have hr':run (args.map (ren (piOf σ'))) (smallF (HeapF H) σ')=some (v1,H1):=hr;have hH1:H1.length-σ'.length=q:=by simp only[List.length_append,putBack_length,List.length_map,List.length_drop]at hlen;omega
 refine⟨λb=>if H.length≤b∧b<H.length+q then some ((HeapF H1 (σ'.length+(b-H.length))).map (renObj (backOf σ' H.length)))else(σ'.idxOf? b).map λj=>(HeapF H1 j).map (renObj (backOf σ' H.length)),?_,?_,?_⟩
 ·funext b
  simp only[HeapF];rcases Nat.lt_or_ge b H.length with hb|hb
  ·rw[List.getElem?_append_left (by rw[putBack_length];exact hb),putBack_get,if_neg (by omega)];simp only[Nat.zero_add];rw[List.getElem?_eq_getElem hb];cases hx:σ'.idxOf? b<;>simp[HeapF]
  ·rw[List.getElem?_append_right (by rw[putBack_length];exact hb),putBack_length,List.getElem?_map,List.getElem?_drop];by_cases he:b<H.length+q
   ·rw[if_pos ⟨hb,he⟩];cases hx:H1[σ'.length+(b-H.length)]? with
    |none=>simp[hx]
    |some ob=>simp[hx]
   ·rw[if_neg (by omega),List.getElem?_eq_none (by omega),List.getElem?_eq_none hb];cases hx:σ'.idxOf? b with
    |none=>rfl
    |some j=>have:=hlt b (List.mem_of_getElem? (idxOf_get hx));omega
 ·intro b hb;dsimp only at hb;by_cases he:H.length≤b∧b<H.length+q
  ·exact List.mem_append_right _ (by rw[List.mem_range'_1];exact he)
  ·rw[if_neg he]at hb;cases hx:σ'.idxOf? b with
   |none=>rw[hx]at hb;simp at hb
   |some j=>exact List.mem_append_left _ (List.mem_of_getElem? (idxOf_get hx))
 ·intro I K ρ h w cargs rel hn hh ha;have hr2:run (args.map (ren (piOf σ'))) (smallF h σ')=some (v1,H1):=by rw[smallF_congr hh];exact hr'
  refine XOf.mono (callCore hrun hr2 rel hnd ha) ?_
  rintro en w' ⟨c,I1,ρ1,rfl,hret,hv⟩
  have hlow:=hret.low;have hback:∀j b m,backOf σ' H.length j=some b→ρ1 j=some m→(if H.length≤b∧b<H.length+q then ρ1 (σ'.length+(b-H.length))else ρ b)=some m:=by
   intro j b m hj hm;simp only[backOf]at hj;rw[cond_eq_ite]at hj;split at hj
   ·rename_i hjl;have hjl:j<σ'.length:=by simpa[Nat.blt_eq]using hjl
    have hb:=hlt b (List.mem_of_getElem? hj);rw[if_neg (by omega)];have:=hret.map j hjl;rw[hm,hj]at this;exact this.symm
   ·rename_i hjl;have hjl:σ'.length≤j:=by simpa[Nat.blt_eq]using hjl
    cases hj;by_cases he:j-σ'.length<q
    ·rw[if_pos (by omega),show σ'.length+(H.length+(j-σ'.length)-H.length)=j by omega];exact hm
    ·rw[hret.nrel j (by omega)]at hm;cases hm
  have hold:∀b m,ρ b=some m→(if H.length≤b∧b<H.length+q then ρ1 (σ'.length+(b-H.length))else ρ b)=some m:=by intro b m hb;rw[if_neg (λe=>by rw[hn b e.1 e.2]at hb;cases hb)];exact hb
  refine⟨c,I1,λb=>if H.length≤b∧b<H.length+q then ρ1 (σ'.length+(b-H.length))else ρ b,rfl,hret.imm,hret.ext.keepLess (λc hc=>.inl hc),λb hb=>if_neg hb,?_,VRel.ren hback v1 hv⟩;refine back_rel rel hnd hret hold hback ?_ ?_
  ·intro b m hb;split at hb
   ·exact .inr ⟨_,hb⟩
   ·exact .inl hb
  intro b o hb;dsimp only at hb;by_cases he:H.length≤b∧b<H.length+q
  ·rw[if_pos he,Option.getD_some]at hb;obtain⟨o1,ho1,rfl⟩:=map_some_inv hb;refine .inr ⟨σ'.length+(b-H.length),o1,?_,ho1,rfl⟩;simp only[backOf];rw[cond_eq_ite,if_neg (by simp[Nat.blt_eq])]
   congr 1;omega
  rw[if_neg he]at hb;cases hx:σ'.idxOf? b with
  |none=>rw[hx]at hb;exact .inl ⟨idxOf_none hx,hb⟩
  |some j=>rw[hx]at hb;simp only[Option.map_some,Option.getD_some]at hb;obtain⟨o1,ho1,rfl⟩:=map_some_inv hb;have hσj:=idxOf_get hx;refine .inr ⟨j,o1,?_,ho1,rfl⟩;simp only[backOf];rw[cond_eq_ite,if_pos (by simpa[Nat.blt_eq]using(List.getElem?_eq_some_iff.1 hσj).1)];exact hσj
theorem step_good(ok:EnvOk E){ro:Option Nat}{call:FuncId→List AV→Heap→Option (AV×Heap)}(hcall:CallsOk E call){F:Frm}{H H':Heap}{o:Oper}{v:AV}{l:LogE}(hlow:e.m≤m0)(hn0:m0≤H.length)
 (hs:stepOp E true call F H o.op=some (v,H',l))(hd:dstOk N o.dst=true) :
 ∃ov fresh,(HeapF H'=λb=>(ov b).getD (HeapF H b))∧H'.length=H.length+fresh∧(∀b,(ov b).isSome=true→b∈l.keys)∧StepGood E ro e N m0 H.length o (getF F) (HeapF H) v ov fresh l:=by
 unfold stepOp at hs;split at hs
 ·rename_i f args ats hop;split at hs
  case h_2=>cases hs
  rename_i v' H1 σ hcv;cases hs
  -- what is called,in whatever state
  have tail:∀(g:FuncId) (as:List AV),callLoc (call g) as H=some (v,H',σ)→(H.length≤H'.length)→(∀b∈σ,b∉chgC E (opv E F f) H H' σ→HeapF H b=HeapF H' b)→
   (∀{C:Nat→Prop} {f':Nat→AV} {h:FHeap} {I:Nat→Prop} {ρ:PMap} {a:Act} {w:World},DNow E e N m0 C f' h I ρ a w→(∀s∈tmpsOf o.op.operands.toList,f' s=getF F s)→
    ∃cargs,VRels I w ρ as cargs∧∀{R:Ending→World→Prop},XOf E g cargs w R→∀{K:Act→World→Prop} {Q:Exit→Act→World→Prop},(∀en w',R en w'→∃c,en = .returned c∧K (a.put o.dst c) w')→o.wpIn (wf ro) 0 E.P a w K Q)→
   ∃ov fresh,(HeapF H'=λb=>(ov b).getD (HeapF H b))∧H'.length=H.length+fresh∧(∀b,(ov b).isSome=true→b∈keysC (chgC E (opv E F f) H H' σ) σ H.length H'.length)∧
    StepGood E ro e N m0 H.length o (getF F) (HeapF H) v ov fresh ⟨σ,keysC (chgC E (opv E F f) H H' σ) σ H.length H'.length⟩:=by
   intro g as hloc hlen hrok T;by_cases hnew:H'.length≠H.length
   ·have hq:H'.length=H.length+(H'.length-H.length):=by omega
    generalize H'.length-H.length=q at hq;have hk:keysC (chgC E (opv E F f) H H' σ) σ H.length H'.length=σ++List.range' H.length q:=by unfold keysC;rw[cond_eq_ite,if_neg (by rw[Nat.beq_eq];omega),show H'.length-H.length=q by omega]
    obtain⟨ov,h1,h2,h3⟩:=call_new (hcall g) hloc hq;refine⟨ov,q,h1,hq,by rw[hk];exact h2,?_⟩;intro C f' h I ρ a w hnow hf hh hC K Q hK;obtain⟨cargs,hargs,tr⟩:=T hnow hf;have hnone:∀b,H.length≤b→b<H.length+q→ρ b=none:=λb h1 h2=>hnow.nrel b (by omega) (hC b h1 h2);refine tr (h3 hnow.rel hnone hh hargs) ?_
    rintro en w' ⟨c,I',ρ',rfl,hI,hext,hρ',hrel,hvc⟩
    refine⟨c,rfl,?_⟩;obtain⟨M,hM⟩:=hnow.fin;have hold:∀b m,ρ b=some m→ρ' b=some m:=by intro b m hb;rw[hρ' b (λe=>by rw[hnone b e.1 e.2]at hb;cases hb)];exact hb
    refine hK I' ρ' _ _ ⟨λc hc=>hI c (hnow.imm c hc),λb hb=>?_,hnow.ext.trans hnow.imm hext,hrel,λb hb hc=>?_,⟨max M (H.length+q),λb hb=>?_⟩,by rw[put_size];exact hnow.size,?_,by rw[put_defers];exact hnow.marks.mono hI (λc hc=>hext.keep c (.inl hc))⟩
    ·rw[hρ' b (by omega)];exact hnow.map b hb
    ·rw[hρ' b (λe=>hc (.inr e))];exact hnow.nrel b hb (λh=>hc (.inl h))
    ·rw[hρ' b (by omega)];exact hM b (by omega)
    ·exact put_frm (λv c hv=>VRel.mono hI (λc hc=>hext.keep c (.inl hc)) v hold hv) hnow.size hnow.frm hd hvc
   have hlen:H'.length=H.length:=Classical.not_not.1 hnew;have hk:keysC (chgC E (opv E F f) H H' σ) σ H.length H'.length=chgC E (opv E F f) H H' σ:=by unfold keysC;rw[hlen,cond_eq_ite,if_pos (by rw[Nat.beq_eq])]
   rw[hk];generalize chgC E (opv E F f) H H' σ=k at hrok;obtain⟨ov,h1,h2,h3⟩:=call_good (hcall g) hloc hlen;obtain⟨ov,h1,h2,h3⟩:∃ov:Nat→Option (Option AObj),(HeapF H'=λb=>(ov b).getD (HeapF H b))∧(∀b,(ov b).isSome=true→b∈k)∧
    ∀{I K:Nat→Prop} {ρ:PMap} {h:FHeap} {w:World} {cargs:List Value},HRel E.G I K ρ h w→(∀b∈σ,h b=HeapF H b)→VRels I w ρ as cargs→
     XOf E g cargs w λen w'=>∃c I',en = .returned c∧(∀c,I c→I' c)∧Ext I K w w'∧HRel E.G I' K ρ (λb=>(ov b).getD (h b)) w'∧VRel I' w' ρ v c:=by
    have hno:∀b x,ov b=some x→b∉k→x=HeapF H b:=by intro b x hx hb;have e1:=hrok b (h2 b (by rw[hx];rfl)) hb;rw[h1]at e1;simp only[hx,Option.getD_some]at e1;exact e1.symm
    refine⟨λb=>if b∈k then ov b else none,?_,?_,?_⟩
    ·rw[h1];funext b
     by_cases hb:b∈k
     ·simp only[hb,if_true]
     ·simp only[hb,if_false,Option.getD_none];cases hx:ov b with
      |none=>rfl
      |some x=>simp only[Option.getD_some];exact hno b x hx hb
    ·intro b hb;by_cases h:b∈k
     ·exact h
     ·simp[h]at hb
    ·intro I K ρ h w cargs hrel hh ha;have e:(λb=>(if b∈k then ov b else none).getD (h b))=λb=>(ov b).getD (h b):=by
      funext b
      by_cases hb:b∈k
      ·simp only[hb,if_true]
      ·simp only[hb,if_false,Option.getD_none];cases hx:ov b with
       |none=>rfl
       |some x=>simp only[Option.getD_some];rw[hno b x hx hb,hh b (h2 b (by rw[hx];rfl))]
     simp only[e];exact h3 hrel hh ha
   refine⟨ov,0,h1,hlen,h2,?_⟩;intro C f' h I ρ a w hnow hf hh hC K Q hK;obtain⟨cargs,hargs,tr⟩:=T hnow hf;refine tr (h3 hnow.rel hh hargs) ?_
   rintro en w' ⟨c,I',rfl,hI,hext,hrel,hvc⟩
   refine⟨c,rfl,?_⟩;refine hK I' ρ _ _ ⟨λc hc=>hI c (hnow.imm c hc),hnow.map,hnow.ext.trans hnow.imm hext,hrel,λb hb hc=>hnow.nrel b hb (λh=>hc (.inl h)),hnow.fin,by rw[put_size];exact hnow.size,?_,by rw[put_defers];exact hnow.marks.mono hI (λc hc=>hext.keep c (.inl hc))⟩;exact put_frm (λv c hv=>VRel.mono hI (λc hc=>hext.keep c (.inl hc)) v (λ_ _ h=>h) hv) hnow.size hnow.frm hd hvc
  have lens:¬((true && !(Nat.ble H.length H'.length))=true)→H.length≤H'.length:=by intro h;simpa only[Bool.true_and,Bool.not_eq_true',Bool.not_eq_false,Nat.ble_eq]using h
  unfold callV at hcv;split at hcv
  case h_3=>cases hcv
  case h_2=>
   rename_i b hfv;split at hcv
   case h_2=>cases hcv
   rename_i v'' H2 σ2 hloc;rw[cond_eq_ite]at hcv;split at hcv
   case isTrue=>cases hcv
   rename_i hlen;cases hcv;refine tail yId _ hloc (lens hlen) (λb hb hn=>by rw[hfv]at hn;exact absurd hb hn) ?_;intro C f' h I ρ a w hnow hf;have hops:=opv_agree (E:=E) hf;rw[hop]at hops;have hf1:=hnow.opvf f;rw[←hops f (by simp[Op.operands,Call.operands]),hfv]at hf1;simp only[VRel]at hf1;obtain⟨m,hm,hfe⟩:=hf1;have hargs:args.toList.map (opv E F)=args.toList.map (opvf E f'):=List.map_congr_left λx hx=>hops x (by simp[Op.operands,Call.operands];exact .inr (by simpa using hx));refine⟨.func (.yield m.blk) #[] #[]::(args.map a.eval).toList,?_,?_⟩
   ·simp only[VRels];refine⟨_,_,rfl,by simp only[VRel];exact⟨m,hm,rfl⟩,?_⟩;rw[Array.toList_map,hargs];exact vrels_map hnow.opvf args.toList
   ·intro R hc K Q hK;rw[XOf_y]at hc;obtain⟨l,vs,fn,tmps,asg,body,he,hy,hr⟩:=hc;simp only[List.cons.injEq,Value.func.injEq,Fn.yield.injEq,and_true]at he;obtain⟨hl,rfl⟩:=he;have harr:(args.map a.eval).toList.toArray=args.map a.eval:=by apply Array.ext';simp
    rw[harr]at hy;refine wpIn_of (by rw[hop];intro c hc;cases hc) ?_;rw[exec_yield hop hfe,hl,hy];refine upon_round (hr.mono ?_);intro en w' hR;obtain⟨c,rfl,hk⟩:=hK en w' hR;exact hk
  rename_i g fs cs hfv
  -- the operands in another state
  have agree:∀{C:Nat→Prop} {f':Nat→AV} {h:FHeap} {I:Nat→Prop} {ρ:PMap} {a:Act} {w:World},DNow E e N m0 C f' h I ρ a w→(∀s∈tmpsOf o.op.operands.toList,f' s=getF F s)→
   ∃fs' cs',a.eval f = .func (.func g) fs' cs'∧VRels I w ρ (fs++args.toList.map (opv E F)++cs) (fs'++args.map a.eval++cs').toList:=by
   intro C f' h I ρ a w hnow hf;have hops:=opv_agree (E:=E) hf;rw[hop]at hops;have hf1:=hnow.opvf f;rw[←hops f (by simp[Op.operands,Call.operands]),hfv]at hf1;simp only[VRel]at hf1;obtain⟨fs',cs',hfe,hfs,hcs⟩:=hf1;have hargs:args.toList.map (opv E F)=args.toList.map (opvf E f'):=List.map_congr_left λx hx=>hops x (by simp[Op.operands,Call.operands];exact .inr (by simpa using hx));refine⟨fs',cs',hfe,?_⟩;simp only[Array.toList_append,Array.toList_map];rw[hargs];exact VRels.append (VRels.append hfs (vrels_map hnow.opvf args.toList)) hcs
  rw[cond_eq_ite]at hcv;split at hcv
  ·rename_i hext;rw[cond_eq_ite]at hcv;split at hcv
   ·rename_i hg;obtain⟨hH,hσ,args',v0,H1,e1,e2,e3,e4⟩:=lendLoc_inv hcv;subst hH;refine⟨λ_=>none,0,rfl,rfl,by simp,?_⟩;intro C f' h I ρ a w hnow hf hh hC K Q hK;obtain⟨fs',cs',hfe,hargs⟩:=agree hnow hf;have hsub:∀b o,HeapF H' b=some o→h b=some o:=by
     intro b o hb;have hlt:b<H'.length:=by
      rcases Nat.lt_or_ge b H'.length with h'|h'
      ·exact h'
      ·simp[HeapF,List.getElem?_eq_none h']at hb
     rw[hh b (by rw[hσ];exact List.mem_range.2 hlt)];exact hb
    have hc:=lend_core (hcall g) hsub hnow.rel hargs e1 e2 e3 e4;obtain⟨i,hi⟩:=Option.isSome_iff_exists.1 hg;rw[XOf_fn (fn_ne ok hi)]at hc;have harr:(fs'++args.map a.eval++cs').toList.toArray=fs'++args.map a.eval++cs':=by apply Array.ext';simp
    rw[harr]at hc;refine wpIn_of (by rw[hop];intro c hc;cases hc) ?_;rw[exec_call hop hfe,callFunc_enter ok hg];refine upon_enter (Calls.mono hc ?_)
    rintro en w' ⟨c,I',rfl,hI,hext',hrel,hvc⟩
    refine hK I' ρ _ _ ⟨λc hc=>hI c (hnow.imm c hc),hnow.map,hnow.ext.trans hnow.imm hext',hrel,λb hb hc=>hnow.nrel b hb (λh=>hc (.inl h)),hnow.fin,by rw[put_size];exact hnow.size,?_,by rw[put_defers];exact hnow.marks.mono hI (λc hc=>hext'.keep c (.inl hc))⟩;exact put_frm (λv c hv=>VRel.mono hI (λc hc=>hext'.keep c (.inl hc)) v (λ_ _ h=>h) hv) hnow.size hnow.frm hd hvc
   rename_i hfn;split at hcv
   case h_2=>cases hcv
   rename_i v'' hv'';cases hcv;refine⟨λ_=>none,0,rfl,rfl,by simp,?_⟩;intro C f' h I ρ a w hnow hf hh hC K Q hK;obtain⟨fs',cs',hfe,hargs⟩:=agree hnow hf;obtain⟨c,hrun,hvc⟩:=callFunc_ext (E:=E) (w:=w) ok hext (by simpa using hfn) hv'' hargs;have harr:(fs'++args.map a.eval++cs').toList.toArray=fs'++args.map a.eval++cs':=by apply Array.ext';simp
   rw[harr]at hrun;refine wpIn_of (by rw[hop];intro c hc;cases hc) ?_;rw[exec_call hop hfe,hrun,Oper.uponIn_value];refine hK I ρ _ _ ⟨hnow.imm,hnow.map,hnow.ext,hnow.rel,λb hb hc=>hnow.nrel b hb (λh=>hc (.inl h)),hnow.fin,by rw[put_size];exact hnow.size,?_,by rw[put_defers];exact hnow.marks⟩;exact put_frm (λ_ _ h=>h) hnow.size hnow.frm hd hvc
  ·rw[cond_eq_ite]at hcv;split at hcv
   case isFalse=>cases hcv
   rename_i hg;split at hcv
   case h_2=>cases hcv
   rename_i v'' H2 σ2 hloc;rw[cond_eq_ite]at hcv;split at hcv
   case isTrue=>cases hcv
   rename_i hlen;cases hcv;refine tail g _ hloc (lens hlen) ?_ ?_
   ·intro b hb hn;rw[hfv]at hn;exact chgC_same hb hn
   intro C f' h I ρ a w hnow hf;obtain⟨fs',cs',hfe,hargs⟩:=agree hnow hf;refine⟨_,hargs,?_⟩;intro R hc K Q hK;obtain⟨i,hi⟩:=Option.isSome_iff_exists.1 hg;rw[XOf_fn (fn_ne ok hi)]at hc;have harr:(fs'++args.map a.eval++cs').toList.toArray=fs'++args.map a.eval++cs':=by apply Array.ext';simp
   rw[harr]at hc;refine wpIn_of (by rw[hop];intro c hc;cases hc) ?_;rw[exec_call hop hfe,callFunc_enter ok hg];refine upon_enter (Calls.mono hc ?_);intro en w' hR;obtain⟨c,rfl,hk⟩:=hK en w' hR;exact hk
 ·split at hs
  case h_2=>cases hs
  rename_i v' eff ha;rw[cond_eq_ite]at hs;split at hs
  case isFalse=>cases hs
  rename_i hfit;cases hs;refine⟨ovOf H.length eff,eff.nf,effH_ov hfit,?_,λb hb=>ovOf_keys hb,aop_good ok hlow hn0 hd ha⟩;rw[effH_length];unfold Eff.nf;split<;>rfl
end
end Go.Ax
/- AxDraw3: the whole of a region that draws its order. -/
namespace Go.Ax
section
variable {E:Env}{e:Entry}{N m0:Nat}{ops:Array Oper}{Q:Exit→Act→World→Prop}{f0:Nat→AV}{h0:FHeap}
structure RecOk(E:Env)(ro:Option Nat)(e:Entry)(N m0:Nat)(ops:Array Oper)(Q:Exit→Act→World→Prop)(f0:Nat→AV)(h0:FHeap)(p:List Rec)(i:Nat)(r:Rec):Prop where
 dst:∀o,ops[i]?=some o→r.dst=o.dst
 keys:∀b,(r.ov b).isSome=true→b∈r.log.keys
 good:∀{C:Nat→Prop} {f:Nat→AV} {h:FHeap} {I:Nat→Prop} {ρ:PMap} {a:Act} {w:World},DNow E e N m0 C f h I ρ a w→(∀o,ops[i]?=some o→∀s∈looks ops.toList o,f s=gL fov f0 every p s)→
  (∀b∈r.log.needs,h b=gL hov h0 every p b)→(∀b,cnt m0 p≤b→b<cnt m0 p+r.fresh→¬C b)→
  ∀{K:Act→World→Prop},(∀I' ρ' a' w',DNow E e N m0 (λb=>C b∨(cnt m0 p≤b∧b<cnt m0 p+r.fresh)) (λs=>(fov r s).getD (f s)) (λb=>(hov r b).getD (h b)) I' ρ' a' w'→K a' w')→wpOpIn (wf ro) 0 E.P ops Q i K a w
def RecsOk(E:Env)(ro:Option Nat)(e:Entry)(N m0:Nat)(ops:Array Oper)(Q:Exit→Act→World→Prop)(f0:Nat→AV)(h0:FHeap)(recs:List Rec):Prop:=∀i r,nth recs i=some r→RecOk E ro e N m0 ops Q f0 h0 (pre recs i) i r
theorem RecsOk.cons{ro:Option Nat}{recs:List Rec}{r:Rec}(h:RecsOk E ro e N m0 ops Q f0 h0 recs)(hr:RecOk E ro e N m0 ops Q f0 h0 recs recs.length r):RecsOk E ro e N m0 ops Q f0 h0 (r::recs):=by
 intro i r' hi;unfold nth at hi;simp only[pre];split at hi
 ·rename_i he;cases hi;rw[if_pos he,he];exact hr
 ·rename_i he;rw[if_neg he];exact h i r' hi
theorem cnt_ge:∀{l:List Rec},m0≤cnt m0 l
 | []=>Nat.le_refl _
 |r::rest=>by have:=cnt_ge (l:=rest);simp only[cnt];omega
theorem yield_of{I:Nat→Prop}{w:World}{ρ:PMap}{a:Act}{v:AV}{j d:Nat}(hg:guardSlot ops.toList j=some d)(hv:VRel I w ρ v (a.tmps.getD d undef)) :
 (∀b,v = .bool b→yielded ops a.tmps j=some b)∧(v = .tuple []→yielded ops a.tmps j=none):=by
 have hd:(ops[j]?).bind (·.dst)=some d:=by simpa[guardSlot]using hg
 have hget:∀c,a.tmps.getD d undef=c→c≠undef→a.tmps[d]?=some c:=by
  intro c hc hne;rw[Array.getD_eq_getD_getElem?]at hc;cases hx:a.tmps[d]? with
  |none=>rw[hx]at hc;exact absurd hc.symm hne
  |some x=>rw[hx]at hc;simpa using hc
 refine⟨λb hb=>?_,λhb=>?_⟩
 ·rw[hb]at hv;simp only[VRel]at hv;have:=hget _ hv (by simp[undef]);simp[yielded,hd,this]
 ·rw[hb]at hv;simp only[VRel]at hv;obtain⟨cs,hc,hcs⟩:=hv;unfold yielded;rw[hd];simp only[Option.bind_some];rw[Array.getD_eq_getD_getElem?]at hc;cases hx:a.tmps[d]? with
  |none=>rfl
  |some x=>rw[hx]at hc;simp only[Option.getD_some]at hc;rw[hc]
theorem looks_ops{o:Oper}{s:Nat}(h:s∈tmpsOf o.op.operands.toList):s∈looks ops.toList o:=List.mem_append_left _ h
theorem looks_guard{o:Oper}{j d:Nat}{want:Bool}(hg:o.guard=some (j,want))(hs:guardSlot ops.toList j=some d):d∈looks ops.toList o:=by simp[looks,hg,hs]
theorem runOps_recs{post:List Oper}(ok:EnvOk E){ro:Option Nat}{call:FuncId→List AV→Heap→Option (AV×Heap)}(hcall:CallsOk E call)(hlow:e.m≤m0){R:Type}{k:Frm→Heap→Option R}{r:R} :
 ∀(rest:List Oper) (recs:List Rec) (F:Frm) (H:Heap),rest++post=ops.toList.drop recs.length→recs.length+rest.length+post.length=ops.size→getF F=gL fov f0 every recs→HeapF H=gL hov h0 every recs→H.length=cnt m0 recs→
  RecsOk E ro e N m0 ops Q f0 h0 recs→runOps E true N call ops.toList rest (recs.map (·.log)) F H k=some r→
  ∃recs' F' H',recs'.length+post.length=ops.size∧getF F'=gL fov f0 every recs'∧HeapF H'=gL hov h0 every recs'∧H'.length=cnt m0 recs'∧RecsOk E ro e N m0 ops Q f0 h0 recs'∧
   logOk ops.toList (recs'.map (·.log)).length (recs'.map (·.log))=true∧k F' H'=some r
 | [],recs,F,H,_,hlen,hF,hH,hn,hrecs,hrun=>by
  simp only[runOps,Bool.not_true,Bool.false_or]at hrun;rw[cond_eq_ite]at hrun;split at hrun
  case isFalse=>cases hrun
  rename_i hlog;exact⟨recs,F,H,by simpa using hlen,hF,hH,hn,hrecs,hlog,hrun⟩
 |o::rest,recs,F,H,hrest,hlen,hF,hH,hn,hrecs,hrun=>by
  have ho:ops[recs.length]?=some o:=by
   have:(ops.toList.drop recs.length)[0]?=some o:=by rw[←hrest];rfl
   rw[List.getElem?_drop]at this;simpa using this
  have hrest':rest++post=ops.toList.drop (recs.length+1):=by
   have:(ops.toList.drop recs.length).drop 1=rest++post:=by rw[←hrest];rfl
   rw[List.drop_drop]at this;exact this.symm
  unfold runOps at hrun;rw[cond_eq_ite]at hrun;split at hrun
  case isFalse=>cases hrun
  rename_i hd;simp only[List.length_cons]at hlen
  -- a step that is executed,and one that is not
  have exec:∀F0,getF F0=getF F→(match stepOp E true call F0 H o.op with
   |some (v,H',l)=>runOps E true N call ops.toList rest (l::recs.map (·.log)) (setF F0 o.dst v) H' k
   |none=>none)=some r→
   (∀{I:Nat→Prop} {w:World} {ρ:PMap} {a:Act} {f:Nat→AV},(∀s∈looks ops.toList o,f s=gL fov f0 every recs s)→(∀s,VRel I w ρ (f s) (a.tmps.getD s undef))→Region.wanted o (yielded ops a.tmps)=true)→
   ∃recs' F' H',recs'.length+post.length=ops.size∧getF F'=gL fov f0 every recs'∧HeapF H'=gL hov h0 every recs'∧H'.length=cnt m0 recs'∧RecsOk E ro e N m0 ops Q f0 h0 recs'∧
    logOk ops.toList (recs'.map (·.log)).length (recs'.map (·.log))=true∧k F' H'=some r:=by
   intro F0 hF0 hr hw;split at hr
   case h_2=>cases hr
   rename_i v H' l hs;obtain⟨ov,fresh,h1,h2,h3,h4⟩:=step_good (ro:=ro) (e:=e) (N:=N) (m0:=m0) ok hcall hlow (by rw[hn];exact cnt_ge) hs hd;refine runOps_recs ok hcall hlow rest (⟨o.dst,v,ov,fresh,l⟩::recs) (setF F0 o.dst v) H' (by simpa using hrest') (by simp only[List.length_cons];omega) ?_ ?_ ?_ (hrecs.cons ?_) hr
   ·simp only[gL,every,if_true];rw[←hF,←hF0]
    funext s
    cases hdst:o.dst with
    |none=>simp[setF,fov]
    |some d=>rw[getF_setF];simp only[fov,Option.some.injEq];split<;>rfl
   ·simp only[gL,every,if_true];rw[←hH];exact h1
   ·simp only[cnt];rw[←hn];exact h2
   ·refine⟨λo' ho'=>by rw[ho]at ho';cases ho';rfl,h3,?_⟩;intro C f h I ρ a w hnow hf hh hC K hK;have hf:=hf o ho;unfold wpOpIn;simp only[ho];rw[if_pos (hw hf hnow.frm)];refine(h4 hnow (λs hs=>by rw[hf s (looks_ops hs),hF0,hF]) (λb hb=>by rw[hh b hb,hH]) (by rw[hn];exact hC) ?_);rw[hn];exact hK
  have skip:∀F0,getF F0=getF F→runOps E true N call ops.toList rest (⟨[],[]⟩::recs.map (·.log)) (setF F0 o.dst (.tuple [])) H k=some r→
   (∀{I:Nat→Prop} {w:World} {ρ:PMap} {a:Act} {f:Nat→AV},(∀s∈looks ops.toList o,f s=gL fov f0 every recs s)→(∀s,VRel I w ρ (f s) (a.tmps.getD s undef))→Region.wanted o (yielded ops a.tmps)=false)→
   ∃recs' F' H',recs'.length+post.length=ops.size∧getF F'=gL fov f0 every recs'∧HeapF H'=gL hov h0 every recs'∧H'.length=cnt m0 recs'∧RecsOk E ro e N m0 ops Q f0 h0 recs'∧
    logOk ops.toList (recs'.map (·.log)).length (recs'.map (·.log))=true∧k F' H'=some r:=by
   intro F0 hF0 hr hw;refine runOps_recs ok hcall hlow rest (⟨o.dst,.tuple [],λ_=>none,0,⟨[],[]⟩⟩::recs) (setF F0 o.dst (.tuple [])) H (by simpa using hrest') (by simp only[List.length_cons];omega) ?_ ?_ ?_ (hrecs.cons ?_) hr
   ·simp only[gL,every,if_true];rw[←hF,←hF0]
    funext s
    cases hdst:o.dst with
    |none=>simp[setF,fov]
    |some d=>rw[getF_setF];simp only[fov,Option.some.injEq];split<;>rfl
   ·simp only[gL,every,if_true];rw[←hH];rfl
   ·simp only[cnt];exact hn
   ·refine⟨λo' ho'=>by rw[ho]at ho';cases ho';rfl,by simp,?_⟩;intro C f h I ρ a w hnow hf hh hC K hK;have hf:=hf o ho;unfold wpOpIn;simp only[ho];rw[if_neg (by rw[hw hf hnow.frm];simp)];refine⟨λf _=>wf_fn ro f,?_⟩;refine hK I ρ _ _ ⟨hnow.imm,hnow.map,hnow.ext,hnow.rel,λb hb hc=>hnow.nrel b hb (λh=>hc (.inl h)),hnow.fin,by rw[put_size];exact hnow.size,?_,by rw[put_defers];exact hnow.marks⟩;exact put_frm (λ_ _ h=>h) hnow.size hnow.frm hd (by simp only[VRel,undef];exact⟨#[],rfl,by simp[VRels]⟩)
  split at hrun
  ·rename_i hg;exact exec F rfl hrun (λ_ _=>by simp[Region.wanted,hg])
  ·rename_i j want hg;split at hrun
   case h_1=>cases hrun
   rename_i d hgs;have hdl:=looks_guard (o:=o) hg hgs;split at hrun
   ·rename_i b hb;have hw:∀{I:Nat→Prop} {w:World} {ρ:PMap} {a:Act} {f:Nat→AV},(∀s∈looks ops.toList o,f s=gL fov f0 every recs s)→(∀s,VRel I w ρ (f s) (a.tmps.getD s undef))→Region.wanted o (yielded ops a.tmps)=(b==want):=by
     intro I w ρ a f hf hv;have hfd:f d = .bool b:=by rw[hf d hdl,←hF,hb]
     have:=(yield_of hgs (hv d)).1 b hfd;simp[Region.wanted,hg,this]
    have hset:getF (setF F (some d) (.bool b))=getF F:=by
     funext s
     rw[getF_setF];split
     ·rename_i hs;rw[←hs,hb]
     ·rfl
    cases b
    ·simp only[cond_false]at hrun;cases want
     ·simp only[cond_false]at hrun;exact exec _ hset hrun (λhf hv=>by rw[hw hf hv];rfl)
     ·simp only[cond_true]at hrun;exact skip _ hset hrun (λhf hv=>by rw[hw hf hv];rfl)
    ·simp only[cond_true]at hrun;cases want
     ·simp only[cond_false]at hrun;exact skip _ hset hrun (λhf hv=>by rw[hw hf hv];rfl)
     ·simp only[cond_true]at hrun;exact exec _ hset hrun (λhf hv=>by rw[hw hf hv];rfl)
   ·rename_i hb;refine skip F rfl hrun (λ{I w ρ a f} hf hv=>?_);have hfd:f d = .tuple []:=by rw[hf d hdl,←hF,hb]
    have:=(yield_of hgs (hv d)).2 hfd;simp[Region.wanted,hg,this]
   ·cases hrun
theorem nth_map_log{recs:List Rec}:∀{i:Nat} {r:Rec},nth recs i=some r→nth (recs.map (·.log)) i=some r.log:=by
 induction recs with
 |nil=>intro i r h;simp[nth]at h
 |cons a rest ih=>
  intro i r h;unfold nth at h;simp only[List.map_cons,nth,List.length_map];split at h
  ·rename_i hi;cases h;rw[if_pos hi]
  ·rename_i hi;rw[if_neg hi];exact ih h
theorem meetsB_of{a b:List Nat}{x:Nat}(h1:x∈a)(h2:x∈b):meetsB a b=true:=by simp only[meetsB,List.any_eq_true,containsN_iff];exact⟨x,h1,h2⟩
theorem DNow.weaken{C C':Nat→Prop}{f:Nat→AV}{h:FHeap}{I:Nat→Prop}{ρ:PMap}{a:Act}{w:World}(d:DNow E e N m0 C f h I ρ a w)(hC:∀b,C b→C' b):DNow E e N m0 C' f h I ρ a w:={ d with nrel:=λb hb hc=>d.nrel b hb (λh=>hc (hC b h)) }
theorem made_every{S:Nat→Bool}{b:Nat}:∀{l:List Rec},made m0 S l b→made m0 every l b
 | [],h=>h
 |_::_,h=>h.imp (λ⟨_,h2⟩=>⟨rfl,h2⟩) made_every
theorem draw_any{ro:Option Nat}(hst:drawOk ops.toList=true){recs:List Rec}(hlen:recs.length=ops.size)(hrecs:RecsOk E ro e N m0 ops Q f0 h0 recs)(hlog:logOk ops.toList (recs.map (·.log)).length (recs.map (·.log))=true)
 (hQ:∀I ρ a w,DNow E e N m0 (made m0 every recs) (gL fov f0 every recs) (gL hov h0 every recs) I ρ a w→Q .normal a w) :
 ∀(fuel:Nat) (listed:Array Bool) (I:Nat→Prop) (ρ:PMap) (a:Act) (w:World),listed.size=ops.size→((List.range ops.size).filter λi=>!listed.getD i false).length≤fuel→
  (∀j,listed.getD j false=true→SClosed ops.toList (λi=>listed.getD i false) j)→
  DNow E e N m0 (made m0 (λi=>listed.getD i false) recs) (gL fov f0 (λi=>listed.getD i false) recs) (gL hov h0 (λi=>listed.getD i false) recs) I ρ a w→
  wpAnyIn (wf ro) 0 E.P .any ops Q fuel listed a w:=by
 have done:∀(listed:Array Bool) (I:Nat→Prop) (ρ:PMap) (a:Act) (w:World),(∀i,i<ops.size→listed.getD i false=true)→
  DNow E e N m0 (made m0 (λi=>listed.getD i false) recs) (gL fov f0 (λi=>listed.getD i false) recs) (gL hov h0 (λi=>listed.getD i false) recs) I ρ a w→Q .normal a w:=by
  intro listed I ρ a w hall hnow;have hsame:∀j,j<recs.length→(λi=>listed.getD i false) j=every j:=λj hj=>by rw[hlen]at hj;exact hall j hj
  rw[gL_same hsame,gL_same hsame]at hnow;exact hQ I ρ a w (hnow.weaken λb=>made_every)
 intro fuel
 induction fuel with
 |zero=>
  intro listed I ρ a w hsz hcount hcl hnow;have hall:∀i,i<ops.size→listed.getD i false=true:=by
   intro i hi;cases hx:listed.getD i false with
   |true=>rfl
   |false=>
    have:i∈(List.range ops.size).filter λi=>!listed.getD i false:=by rw[List.mem_filter,List.mem_range];exact⟨hi,by rw[hx];rfl⟩
    have:=List.length_pos_of_mem this;omega
  have hready:Region.ready .any ops listed=[]:=by
   cases hr:Region.ready .any ops listed with
   |nil=>rfl
   |cons i rest=>
    have:i∈Region.ready .any ops listed:=by rw[hr];simp
    obtain⟨h1,o,h2,_⟩:=mem_ready.1 this;have hi:=(Array.getElem?_eq_some_iff.1 h2).1;have:=hall i hi;simp only[Array.getD_eq_getD_getElem?,Array.getElem?_eq_getElem (show i<listed.size by omega),Option.getD_some]at h1 this;rw[this]at h1;cases h1
  exact⟨hready,done listed I ρ a w hall hnow⟩
 |succ fuel ih=>
  intro listed I ρ a w hsz hcount hcl hnow;refine⟨λhready=>done listed I ρ a w ?_ hnow,λi hi=>?_⟩
  ·intro i
   induction i using Nat.strongRecOn with
   |_ i ihi=>
    intro hi;cases hx:listed.getD i false with
    |true=>rfl
    |false=>
     exfalso;have hmem:i∈Region.ready .any ops listed:=by
      refine mem_ready.2 ⟨?_,ops[i],by simp[hi],λe he hb=>?_⟩
      ·simpa only[Array.getD_eq_getD_getElem?,Array.getElem?_eq_getElem (show i<listed.size by omega),Option.getD_some]using hx
      ·have:=(drawOk_ok hst (j:=i) (y:=ops[i]) (by simp[hi])).1 e (by simpa using he) hb;exact ihi e.on this (by omega)
     rw[hready]at hmem;cases hmem
  ·obtain⟨h1,o,ho,hedges⟩:=mem_ready.1 hi;have hi':=(Array.getElem?_eq_some_iff.1 ho).1;have hol:ops.toList[i]?=some o:=by simpa using ho
   generalize hS:(λi=>listed.getD i false)=S at hcl hnow;have hSi:S i=false:=by rw[←hS];simp only[Array.getD_eq_getD_getElem?,Array.getElem?_eq_getElem (show i<listed.size by omega),Option.getD_some]at h1⊢;exact h1
   have hcl':∀j,S j=true→SClosed ops.toList S j:=by intro j hj;rw[←hS]at hj;exact hcl j hj
   have hcli:SClosed ops.toList S i:=by intro o' ho' e he hb;rw[hol]at ho';cases ho';rw[←hS];exact hedges e (by simpa using he) hb
   obtain⟨r,hr⟩:=nth_some (l:=recs) (i:=i) (by omega);have hrec:=hrecs i r hr;have opAt:∀j r',nth recs j=some r'→∃o',ops.toList[j]?=some o'∧r'.dst=o'.dst:=by
    intro j r' hj;have hjl:=nth_lt hj;have:ops[j]?=some ops[j]:=by simp
    exact⟨ops[j],by simp,(hrecs j r' hj).dst _ this⟩
   have before:∀j,ordered ops.toList j i=true→S j=true:=λj h=>ordered_in hcl' hcli h;have after:∀j,ordered ops.toList i j=true→S j=false:=by
    intro j h;cases hx:S j with
    |false=>rfl
    |true=>rw[ordered_in hcl' (hcl' j hx) h]at hSi;cases hSi
   refine hrec.good hnow ?_ ?_ ?_ ?_
   ·intro o' ho' s hs;rw[ho]at ho';cases ho';refine gL_at hr λj r' hj hd=>?_;obtain⟨oj,hoj,hdj⟩:=opAt j r' hj;have hds:oj.dst=some s:=by
     rw[←hdj];unfold fov at hd;split at hd
     ·assumption
     ·simp at hd
    refine⟨λhji=>before j ?_,λhij=>?_⟩
    ·refine(drawOk_ok hst hol).2 j oj hoj hji ?_;simp only[slotsMeet,hds,Bool.or_eq_true,List.contains_iff_mem];exact .inl (.inl hs)
    ·rcases Nat.lt_or_eq_of_le hij with hlt|rfl
     ·refine after j ((drawOk_ok hst hoj).2 i o hol hlt ?_);simp only[slotsMeet,hds,Bool.or_eq_true,List.contains_iff_mem];exact .inl (.inr hs)
     ·exact hSi
   ·intro b hb;refine gL_at hr λj r' hj hd=>?_;have hkey:=(hrecs j r' hj).keys b hd;refine⟨λhji=>before j ?_,λhij=>?_⟩
    ·refine logOk_ok hlog j i _ _ hji (nth_map_log hj) (nth_map_log hr) ?_;simp only[LogE.clash,meetsB_of hkey hb,Bool.true_or]
    ·rcases Nat.lt_or_eq_of_le hij with hlt|rfl
     ·refine after j (logOk_ok hlog i j _ _ hlt (nth_map_log hr) (nth_map_log hj) ?_);simp only[LogE.clash,meetsB_of hb hkey,Bool.or_true]
     ·exact hSi
   ·intro b hb1 hb2 hm;rw[made_at hr hb1 hb2 hm]at hSi;cases hSi
   ·intro I' ρ' a' w' hnow';have hS':(λj=>(listed.setIfInBounds i true).getD j false)=plus S i:=by
     funext j
     rw[←hS];simp only[plus,Array.getD_eq_getD_getElem?,Array.getElem?_setIfInBounds];by_cases hij:i=j
     ·subst hij;simp[show i<listed.size by omega]
     ·rw[if_neg hij,beq_eq_false_iff_ne.2 (Ne.symm hij),Bool.false_or]
    refine ih _ I' ρ' a' w' (by simpa using hsz) ?_ ?_ ?_
    ·have hfil:((List.range ops.size).filter λj=>!(listed.setIfInBounds i true).getD j false)=((List.range ops.size).filter λj=>!listed.getD j false).filter λj=>!(j==i):=by
      rw[List.filter_filter];refine List.filter_congr λj _=>?_;have h1:=congrFun hS' j;have h2:=congrFun hS j;rw[h1,h2];simp[plus]
     rw[hfil];have:(((List.range ops.size).filter λj=>!listed.getD j false).filter λj=>!(j==i)).length<((List.range ops.size).filter λj=>!listed.getD j false).length:=by refine List.length_filter_lt_length_iff_exists.2 ⟨i,?_,by simp⟩;rw[List.mem_filter,List.mem_range];refine⟨hi',?_⟩;have h2:=congrFun hS i;rw[h2,hSi];rfl
     omega
    ·rw[hS'];have hmono:∀j,SClosed ops.toList S j→SClosed ops.toList (plus S i) j:=λj h o ho e he hb=>by simp[plus,h o ho e he hb]
     intro j hj;have hj:plus S i j=true:=by rw[←hS'];exact hj
     simp only[plus,Bool.or_eq_true,beq_iff_eq]at hj;rcases hj with rfl|hj
     ·exact hmono _ hcli
     ·exact hmono _ (hcl' j hj)
    ·rw[hS'];rw[gL_add hr hSi ?_,gL_add hr hSi ?_]
     ·exact hnow'.weaken λb hb=>made_plus hr hb
     ·intro k r' hk hik hSk s hs;cases hx:hov r' s with
      |none=>rfl
      |some ob=>have h1:=hrec.keys s hs;have h2:=(hrecs k r' hk).keys s (by unfold hov at hx;rw[hx];rfl);have:=after k (logOk_ok hlog i k _ _ hik (nth_map_log hr) (nth_map_log hk) (by simp only[LogE.clash,meetsB_of h1 h2,Bool.or_true,Bool.true_or]));rw[hSk]at this;cases this
     ·intro k r' hk hik hSk s hs;cases hx:fov r' s with
      |none=>rfl
      |some v=>
       obtain⟨ok,hok,hdk⟩:=opAt k r' hk;have h1:o.dst=some s:=by
        rw[←hrec.dst o ho];unfold fov at hs;split at hs
        ·assumption
        ·simp at hs
       have h2:ok.dst=some s:=by
        rw[←hdk];unfold fov at hx;split at hx
        ·assumption
        ·cases hx
       have:=after k ((drawOk_ok hst hok).2 i o hol hik (by simp[slotsMeet,h1,h2]));rw[hSk]at this;cases this
theorem runOps_draw(ok:EnvOk E){ro:Option Nat}{call:FuncId→List AV→Heap→Option (AV×Heap)}(hcall:CallsOk E call){R:Type}{k:Frm→Heap→Option R}{r:R}{F:Frm}{H:Heap}{I:Nat→Prop}{ρ:PMap}{a:Act}{w:World}
 (hst:drawOk ops.toList=true)(hQ:∀F H I ρ a w,Now E e N F H I ρ a w→k F H=some r→Q .normal a w)(hnow:Now E e N F H I ρ a w)(hrun:runOps E true N call ops.toList ops.toList [] F H k=some r)(id:Nat) :
 (Code.region id ops true).wpIn (wf ro) 0 E.P Q a w:=by
 refine wpIn_region_any ok.mixed ?_;obtain⟨recs,F',H',h1,h2,h3,h4,h5,h6,h7⟩:=runOps_recs (post:=[]) (ro:=ro) (e:=e) (N:=N) (m0:=H.length) (Q:=Q) (f0:=getF F) (h0:=HeapF H) ok hcall hnow.low ops.toList [] F H (by simp) (by simp) rfl rfl rfl (λi r h=>by simp[nth]at h) hrun;have hfalse:∀i,(Array.replicate ops.size false).getD i false=false:=by intro i;simp only[Array.getD_eq_getD_getElem?,Array.getElem?_replicate];split<;>rfl
 have hnone:∀{V:Type} (o:Rec→Nat→Option V) (g0:Nat→V) (l:List Rec),gL o g0 (λi=>(Array.replicate ops.size false).getD i false) l=g0:=by
  intro V o g0 l
  induction l with
  |nil=>rfl
  |cons a rest ih=>unfold gL;rw[if_neg (by rw[hfalse];simp)];exact ih
 refine draw_any hst (by simpa using h1) h5 h6 ?_ ops.size _ I ρ a _ (by simp) ?_ ?_ ?_
 ·intro I' ρ' a' w' hd;refine hQ F' H' I' ρ' a' w' ⟨hd.imm,hd.map,hd.ext,?_,?_,⟨hd.size,λs=>by rw[h2];exact hd.frm s⟩,?_,hd.marks⟩ h7
  ·rw[h3];exact hd.rel
  ·intro b hb;have hge:H.length≤cnt H.length recs:=cnt_ge;refine hd.nrel b (by omega) (λhm=>?_);have:=made_lt hm;omega
  ·have hge:H.length≤cnt H.length recs:=cnt_ge;have:=hnow.low;omega
 ·refine Nat.le_trans (List.length_filter_le _ _) (by simp)
 ·intro j hj;have:=hfalse j;rw[this]at hj;cases hj
 ·have hdrew:=hnow.drew;rw[hnone,hnone];exact⟨hdrew.imm,hdrew.map,hdrew.ext,hdrew.rel,λb hb _=>hdrew.nrel b hb,⟨_,hdrew.nrel⟩,hdrew.frm.1,hdrew.frm.2,hdrew.marks⟩
end
end Go.Ax
/- AxMark: what a loop over a function leaves behind: blocks for deferred calls, shut when the function ends. -/
namespace Go.Ax
section
variable {I:Nat→Prop}{w w':World}
def SameD(w w':World)(c:Nat):Prop:=w'.heap[c]?=w.heap[c]?∨∃d,w.heap[c]?=some (.deferred d)
theorem SameD.map{c:Nat}{es:Array MapEntry}{cl:Nat}(h:SameD w w' c)(hc:w.heap[c]?=some (.map es cl)):w'.heap[c]?=some (.map es cl):=by
 rcases h with h|⟨d,h⟩
 ·rw[h,hc]
 ·rw[hc]at h;cases h
theorem SameD.cell{b o:Nat}{c:Value}(h:SameD w w' b)(hc:w.cell? ⟨b,o,none⟩=some c):w'.cell? ⟨b,o,none⟩=some c:=by
 rcases h with h|⟨d,h⟩
 ·rw[cell?_congr h,hc]
 ·simp[World.cell?,h]at hc
mutual
theorem VRel.monoD(hw:∀c,I c→SameD w w' c):∀{ρ:PMap} (v:AV) {c:Value},VRel I w ρ v c→VRel I w' ρ v c
 |ρ,v,c,h=>by
  cases v with
  |junk=>simp[VRel]
  |bool b=>simpa[VRel]using h
  |int k n=>simpa[VRel]using h
  |str s=>simpa[VRel]using h
  |nilptr=>simpa[VRel]using h
  |nilslice=>simpa[VRel]using h
  |nilmap=>simpa[VRel]using h
  |nilfunc=>simpa[VRel]using h
  |nilifc=>simpa[VRel]using h
  |ptr b i o=>simpa only[VRel]using h
  |iptr cs=>simp only[VRel]at h⊢;obtain⟨b,off,rfl,hb,h⟩:=h;exact⟨b,off,rfl,hb,VAt.monoD hw cs (hw _ hb) h⟩
  |slice b off len cap=>simpa only[VRel]using h
  |islice rows cap=>
   simp only[VRel]at h⊢;obtain⟨a,n,k,rfl,h1,h2,h3⟩:=h;refine⟨a,n,k,rfl,h1,h2,h3.imp id ?_⟩
   rintro⟨hs,hb,h⟩
   exact⟨hs,hb,VRows.monoD hw rows (hw _ hb) h⟩
  |map b=>simpa only[VRel]using h
  |imap ks vs bs clock=>simp only[VRel]at h⊢;obtain⟨b,es,rfl,hb,he,h1,h2,h3⟩:=h;exact⟨b,es,rfl,hb,(hw _ hb).map he,VRels.monoD hw ks h1,VRels.monoD hw vs h2,h3⟩
  |iset ks=>simp only[VRel]at h⊢;obtain⟨b,es,cl,rfl,hb,he,h1⟩:=h;exact⟨b,es,cl,rfl,hb,(hw _ hb).map he,h1⟩
  |yfn b=>simpa only[VRel]using h
  |func fn fs cs=>simp only[VRel]at h⊢;obtain⟨fs',cs',rfl,h1,h2⟩:=h;exact⟨fs',cs',rfl,VRels.monoD hw fs h1,VRels.monoD hw cs h2⟩
  |iface t x=>simp only[VRel]at h⊢;obtain⟨x',rfl,h⟩:=h;exact⟨x',rfl,VRel.monoD hw x h⟩
  |agg cs=>simp only[VRel]at h⊢;obtain⟨cs',rfl,h⟩:=h;exact⟨cs',rfl,VRels.monoD hw cs h⟩
  |tuple cs=>simp only[VRel]at h⊢;obtain⟨cs',rfl,h⟩:=h;exact⟨cs',rfl,VRels.monoD hw cs h⟩
theorem VRels.monoD(hw:∀c,I c→SameD w w' c):∀{ρ:PMap} (vs:List AV) {cs:List Value},VRels I w ρ vs cs→VRels I w' ρ vs cs
 |ρ,[],cs,h=>by simpa[VRels]using h
 |ρ,v::vs,cs,h=>by simp only[VRels]at h⊢;obtain⟨c,cs',rfl,h1,h2⟩:=h;exact⟨c,cs',rfl,VRel.monoD hw v h1,VRels.monoD hw vs h2⟩
theorem VAt.monoD(hw:∀c,I c→SameD w w' c):∀{ρ:PMap} (vs:List AV) {b off:Nat},SameD w w' b→VAt I w ρ vs b off→VAt I w' ρ vs b off
 |ρ,[],b,off,hb,h=>by simp[VAt]
 |ρ,v::vs,b,off,hb,h=>by simp only[VAt]at h⊢;obtain⟨⟨c,hc,h1⟩,h2⟩:=h;exact⟨⟨c,hb.cell hc,VRel.monoD hw v h1⟩,VAt.monoD hw vs hb h2⟩
theorem VRows.monoD{k:Nat}(hw:∀c,I c→SameD w w' c):∀{ρ:PMap} (rs:List (List AV)) {b off:Nat},SameD w w' b→VRows I w k ρ rs b off→VRows I w' k ρ rs b off
 |ρ,[],b,off,hb,h=>by simp[VRows]
 |ρ,r::rs,b,off,hb,h=>by simp only[VRows]at h⊢;obtain⟨h0,h1,h2⟩:=h;exact⟨h0,VAt.monoD hw r hb h1,VRows.monoD hw rs hb h2⟩
end
theorem ORel.monoD{G:GTab (List AV)}{ρ:PMap}{m:Pl}(hw:∀c,I c→SameD w w' c)(o:AObj)(hb:w'.heap[m.blk]?=w.heap[m.blk]?)(h:ORel G I w ρ m o):ORel G I w' ρ m o:=by
 cases o with
 |row k rows=>obtain⟨h1,h2,⟨arr,e,h3,h4⟩,h5⟩:=h;exact⟨h1,h2,⟨arr,e,by rw[hb,h3],h4⟩,VRows.monoD hw rows (.inl hb) h5⟩
 |map ks vs bs clock=>obtain⟨es,h1,h2,h3,h4⟩:=h;exact⟨es,by rw[hb,h1],VRels.monoD hw ks h2,VRels.monoD hw vs h3,h4⟩
 |siter s pos=>obtain⟨h0,t,h1,h2⟩:=h;exact⟨h0,t,by rw[hb,h1],h2⟩
 |uset ks=>obtain⟨es,cl,h1,h2⟩:=h;exact⟨es,cl,by rw[hb,h1],h2⟩
 |miter ks vis arm=>
  obtain⟨h0,h⟩:=h;rcases h with ⟨h1,h2,h3⟩|⟨c,es,cl,seen,h1,h2,h3,h4,h5⟩
  ·exact⟨h0,.inl ⟨h1,h2,by rw[hb,h3]⟩⟩
  ·exact⟨h0,.inr ⟨c,es,cl,seen,h1,(hw c h1).map h2,h3,by rw[hb,h4],h5⟩⟩
 |yloop y F st=>obtain⟨ri,r,h0,h1,h2,h3,h4,h5,h6,h7⟩:=h;exact⟨ri,r,h0,by rw[hb,h1],h2,h3,h4,h5,λs=>VRel.monoD hw _ (h6 s),h7⟩
 |trow t x k rows=>obtain⟨h0,h1,h2,⟨arr,h3,h4⟩,h5⟩:=h;exact⟨h0,h1,h2,⟨arr,by rw[hb,h3],h4⟩,VRows.monoD hw rows (.inl hb) h5⟩
end
theorem GAt.monoD{I:Nat→Prop}{w w':World}(hw:∀c,I c→SameD w w' c)(cs:List AV){g:Nat}(hb:SameD w w' g)(h:GAt I w cs g):GAt I w' cs g:=by
 refine⟨VAt.monoD hw cs hb h.1,λhn=>?_⟩;rcases hb with hb|⟨d,hb⟩
 ·rw[cell?_congr hb];exact h.2 hn
 ·exfalso;cases cs with
  |nil=>exact hn rfl
  |cons v vs=>have h1:=h.1;simp only[VAt]at h1;obtain⟨⟨c,hc,_⟩,_⟩:=h1;simp[World.cell?,hb]at hc
section
variable {G:GTab (List AV)}{I K:Nat→Prop}{ρ:PMap}{h:FHeap}{w w':World}
theorem HRel.shut(r:HRel G I K ρ h w){S:Nat→Prop}(hS:∀c,S c→I c∧∃d,w.heap[c]?=some (.deferred d))(hsize:w'.heap.size=w.heap.size)(hw:∀c,¬S c→w'.heap[c]?=w.heap[c]?) :
 HRel G I K ρ h w':=by
 have hD:∀c,SameD w w' c:=by
  intro c;by_cases hc:S c
  ·exact .inr (hS c hc).2
  ·exact .inl (hw c hc)
 refine⟨?_,r.inj,λb m hb=>by rw[hsize];exact r.dom b m hb,λc hc=>by rw[hsize];exact r.imm c hc,λc hc=>by rw[hsize];exact r.kept c hc,r.apart,?_⟩
 ·intro b o hb;obtain⟨m,h1,h2,h3,h4⟩:=r.live b o hb;exact⟨m,h1,h2,h3,ORel.monoD (λc _=>hD c) o (hw _ (λhc=>h2 (hS _ hc).1)) h4⟩
 ·intro g cs hg;obtain⟨h1,h2⟩:=r.glob g cs hg;exact⟨h1,GAt.monoD (λc _=>hD c) cs (hD g) h2⟩
theorem stepped_imm(r:HRel G I K ρ h w){ob:Obj}(hw:w'.heap=w.heap.push ob)(ht:w'.tape=w.tape)(hos:w'.os=w.os)(hout:w'.output=w.output) :
 Stepped G I K ρ w (λc=>I c∨c=w.heap.size) ρ h w':=by
 have hold:∀c,c<w.heap.size→w'.heap[c]?=w.heap[c]?:=by intro c hc;rw[hw,Array.getElem?_push,if_neg (by omega)]
 refine⟨λ_ h=>.inl h,λ_ _ h=>h,⟨hos,ht,hout,by rw[hw];simp,?_⟩,⟨?_,r.inj,?_,?_,?_,?_,?_⟩⟩
 ·rintro c (hc|hc)
  ·exact hold c (r.imm c hc)
  ·exact hold c (r.kept c hc)
 ·intro b o hb;obtain⟨m,h1,h2,h3,h4⟩:=r.live b o hb;have hd:=r.dom b m h1;exact⟨m,h1,λhc=>hc.elim h2 (λe=>by omega),h3,ORel.mono o (λ_ h=>.inl h) (λc hc=>hold c (r.imm c hc)) (λ_ _ h=>h) (hold _ hd) h4⟩
 ·intro b m hb;have:=r.dom b m hb;rw[hw];simp only[Array.size_push];omega
 ·rintro c (hc|rfl)
  ·have:=r.imm c hc;rw[hw];simp only[Array.size_push];omega
  ·rw[hw];simp
 ·intro c hc;have:=r.kept c hc;rw[hw];simp only[Array.size_push];omega
 ·rintro c (hc|rfl) hk
  ·exact r.apart c hc hk
  ·have:=r.kept _ hk;omega
 ·intro g cs hg;obtain⟨h1,h2⟩:=r.glob g cs hg;exact⟨.inl h1,GAt.mono (λ_ h=>.inl h) (λc hc=>hold c (r.imm c hc)) cs (λ_ _ h=>h) (hold g (r.imm g h1)) h2⟩
theorem stepped_away(r:HRel G I K ρ h w){c0:Nat}(hI:¬I c0)(hK:¬K c0)(hl:∀b o m,h b=some o→ρ b=some m→m.blk≠c0)(hsize:w'.heap.size=w.heap.size)
 (hw:∀c,c≠c0→w'.heap[c]?=w.heap[c]?)(ht:w'.tape=w.tape)(hos:w'.os=w.os)(hout:w'.output=w.output):Stepped G I K ρ w I ρ h w':=by
 have hIw:∀c,I c→w'.heap[c]?=w.heap[c]?:=λc hc=>hw c (λe=>hI (e▸hc));refine⟨λ_ h=>h,λ_ _ h=>h,⟨hos,ht,hout,by omega,?_⟩,⟨?_,r.inj,λb m hb=>by rw[hsize];exact r.dom b m hb,λc hc=>by rw[hsize];exact r.imm c hc,λc hc=>by rw[hsize];exact r.kept c hc,r.apart,?_⟩⟩
 ·rintro c (hc|hc)
  ·exact hIw c hc
  ·exact hw c (λe=>hK (e▸hc))
 ·intro b o hb;obtain⟨m,h1,h2,h3,h4⟩:=r.live b o hb;exact⟨m,h1,h2,h3,ORel.mono o (λ_ h=>h) hIw (λ_ _ h=>h) (hw _ (hl b o m hb h1)) h4⟩
 ·intro g cs hg;obtain⟨h1,h2⟩:=r.glob g cs hg;exact⟨h1,GAt.mono (λ_ h=>h) hIw cs (λ_ _ h=>h) (hIw g h1) h2⟩
end
/-! ### a function's end -/
def shutAll:List Nat→World→World
 | [],w=>w
 |r::rs,w=>shutAll rs (w.putObj r (.deferred none))
theorem shutAll_rest:∀(rs:List Nat) (w:World),(shutAll rs w).heap.size=w.heap.size∧(shutAll rs w).tape=w.tape∧(shutAll rs w).os=w.os∧(shutAll rs w).output=w.output∧
 ∀c,c∉rs→(shutAll rs w).heap[c]?=w.heap[c]?
 | [],w=>⟨rfl,rfl,rfl,rfl,λ_ _=>rfl⟩
 |r::rs,w=>by obtain⟨h1,h2,h3,h4,h5⟩:=shutAll_rest rs (w.putObj r (.deferred none));refine⟨by rw[shutAll,h1];simp,by rw[shutAll,h2];rfl,by rw[shutAll,h3];rfl,by rw[shutAll,h4];rfl,λc hc=>?_⟩;simp only[List.mem_cons,not_or]at hc;rw[shutAll,h5 c hc.2,World.putObj_heap_other hc.1]
theorem leaves_marks{P:Program}{n:Nat}{F:Fence}{fn:Func}{tmps:Array Value}{R:Ending→World→Prop}:∀(rs:List Nat) (w:World),rs.Nodup→(∀r∈rs,w.heap[r]?=some (.deferred (some [])))→
 (∃v,(results fn tmps).run P (shutAll rs w) = .ok v (shutAll rs w)∧R (.returned v) (shutAll rs w))→LeavesInM F n P fn tmps R (rs.map (λr=>(⟨.collected r,#[]⟩:Deferred))) .returning w
 | [],w,_,_,h=>by simpa[LeavesInM,LeavesIn,shutAll]using h
 |r::rs,w,hnd,hr,h=>by simp only[List.map_cons,LeavesInM];refine⟨by simp,.inl ⟨r,w.putObj r (.deferred none),rfl,run_takeDeferred (hr r (by simp)),?_⟩⟩;have hnd:=List.nodup_cons.1 hnd;refine leaves_marks rs _ hnd.2 (λq hq=>?_) h;have hne:q≠r:=λe=>hnd.1 (by rw[←e];exact hq);rw[World.putObj_heap_other hne];exact hr q (by simp[hq])
/-! ### a scope -/
theorem wpIn_scope_straight{F:Fence}{n:Nat}{P:Program}{Q:Exit→Act→World→Prop}{a:Act}{w:World}{c:Code}(h:c.wpIn F n P (Exit.noGoto Q) a w):(Code.scope c).wpIn F n P Q a w:=by
 intro b k cs hro hb hr;have h0:(lone (b.atR a (.code (.scope c)::k)) cs w).fenced P F:=fenced_calm hb hr rfl;have s0:step P (lone (b.atR a (.code (.scope c)::k)) cs w) = .next (lone (b.atR a (.code c :: .inScope c::k)) cs w):=step_lone_go (by simp[stepG,stepG.exec,Frame.atR]);obtain⟨e,a₁,w₁,hq,harr⟩:=h b (.inScope c::k) cs hro hb hr;have s1:step P (lone (b.atR a₁ (.inScope c::k)) cs w₁) = .next (lone (b.atR a₁ k) cs w₁):=step_lone_go (by simp[stepG,stepG.exec,Frame.atR]);cases e with
 |normal=>exact⟨.normal,a₁,w₁,hq,.head h0 s0 (StepsIn.trans harr (.one (fenced_calm hb hr rfl) s1))⟩
 |exit id=>
  have hx:exitTo id (.inScope c::k)=exitTo id k:=by simp[exitTo]
  exact⟨.exit id,a₁,w₁,hq,λk' hk=>.head h0 s0 (harr.1 k' (by rw[hx];exact hk)),
   λhr' hk=>let⟨k₁,h1,h2⟩:=harr.2 hr' (by rw[hx];exact hk);⟨k₁,h1,.head h0 s0 h2⟩⟩
 |goto l=>exact hq.elim
 |ret=>exact⟨_,a₁,w₁,hq,.of_steps (.one h0 s0) harr⟩
 |panic ch=>exact⟨_,a₁,w₁,hq,.of_steps (.one h0 s0) harr⟩
 |outgrown=>exact⟨_,a₁,w₁,hq,.of_steps (.one h0 s0) harr⟩
end Go.Ax
/- AxCode: statements. -/
namespace Go.Ax
def drawsAt:Bool→Code→Bool
 |top,.region _ ops draw=>bif (nxOf ops.toList).isSome then top && !draw else bif draw then drawOk ops.toList else true
 |top,.seq a b=>drawsAt top a&&drawsAt false b
 |_,.cond _ a b=>drawsAt false a&&drawsAt false b
 |_,.block _ b=>drawsAt false b
 |_,.loop b=>drawsAt (nxLoop b).isSome b
 |_,.scope b=>drawsAt false b
 |_,_=>true
def drawsOk(c:Code):Bool:=drawsAt false c
def AExit.conv:AExit→Exit
 |.normal=>.normal
 |.exit id=>.exit id
 |.ret=>.ret
def CodeP(E:Env)(call:FuncId→List AV→Heap→Option (AV×Heap))(fid:Nat)(ro:Option Nat)(e:Entry)(N lf:Nat)(keep:Nat→List Nat)(c:Code):Prop:=
 ∀{R:Type} {cur:Nat},RFOk E fid N keep ro cur c→∀{k:AExit→Frm→Heap→Option R} {r:R} {Q:Exit→Act→World→Prop},(∀x F H I ρ a w,Now E e N F H I ρ a w→k x F H=some r→Q x.conv a w)→
 ∀{F:Frm} {H:Heap} {I:Nat→Prop} {ρ:PMap} {a:Act} {w:World},Now E e N F H I ρ a w→aevC E e.m N keep call lf cur c F H k=some r→c.wpIn (wf ro) 0 E.P Q a w
/-! ### a loop over a set -/
theorem insEv_mem(x:Int):∀(a b:List Int),a++x::b∈insEv x (a++b)
 | [],[]=>by simp[insEv]
 | [],y::b=>by simp[insEv]
 |y::a,b=>by simp only[List.cons_append,insEv,List.mem_cons];exact .inr (List.mem_map_of_mem (insEv_mem x a b))
theorem permsZ_mem:∀{ks o:List Int},o.Perm ks→o∈permsZ ks
 | [],o,h=>by rw[h.eq_nil];simp[permsZ]
 |x::ks,o,h=>by obtain⟨a,b,rfl⟩:=List.append_of_mem (h.mem_iff.2 (List.mem_cons_self));have h2:(a++b).Perm ks:=(List.perm_middle.symm.trans h).cons_inv;simp only[permsZ,List.mem_flatMap];exact⟨a++b,permsZ_mem h2,insEv_mem x a b⟩
theorem sameH_eq:∀{F G:Heap},sameH F G=true→F=G
 | [],[],_=>rfl
 |a::F,b::G,h=>by simp only[sameH,Bool.and_eq_true]at h;rw[sameO_eq _ _ h.1,sameH_eq h.2]
 | [],_::_,h=>by simp[sameH]at h
 |_::_,[],h=>by simp[sameH]at h
theorem same3_eq{x:Option R3}{r:R3}(h:same3 x r=true):x=some r:=by
 unfold same3 at h;split at h
 case h_2=>cases h
 rename_i e F H;simp only[Bool.and_eq_true]at h;obtain⟨e',F',H'⟩:=r;have he:e=e':=by have:=h.1;cases e<;>cases e'<;>simp[sameE]at this<;>first|rfl|rw[this]
 rw[he,sameF_eq h.2.1,sameH_eq h.2.2]
section
variable {E:Env}
theorem HeapF_set{H:Heap}{b x:Nat}{o:Option AObj}:HeapF (H.set b o) x=if b=x∧b<H.length then o else HeapF H x:=by
 unfold HeapF;rw[List.getElem?_set];by_cases h:b=x
 ·subst h;by_cases h2:b<H.length
  ·simp[h2]
  ·simp[h2]
 ·simp[h]
theorem heapF_in{H:Heap}{b:Nat}{o:AObj}(h:HeapF H b=some o):b<H.length:=by
 unfold HeapF at h;rcases Nat.lt_or_ge b H.length with h1|h1
 ·exact h1
 ·rw[List.getElem?_eq_none h1]at h;simp at h
theorem Now.dropIt{e:Entry}{N:Nat}{F:Frm}{H:Heap}{I:Nat→Prop}{ρ:PMap}{a:Act}{w:World}(h:Now E e N F H I ρ a w)(it:Nat):Now E e N F (Ax.dropIt F H it) I ρ a w:=by
 unfold Ax.dropIt;split
 ·rename_i b i o hb;refine{ h with rel:=h.rel.fewer (λx ob hx=>?_),nrel:=by rw[List.length_set];exact h.nrel,low:=by rw[List.length_set];exact h.low };rw[HeapF_set]at hx;split at hx
  ·cases hx
  ·exact hx
 ·exact h
theorem Now.step{e:Entry}{N:Nat}{F:Frm}{H:Heap}{I:Nat→Prop}{ρ:PMap}{a:Act}{w w':World}(h:Now E e N F H I ρ a w){b:Nat}{o:AObj}(hb:b<H.length)(st:Stepped E.G I e.K ρ w I ρ ((HeapF H).eff H.length (.set b o)) w')
 {nx:Nat}(hnx:nx<N){v:AV}{c:Value}(hv:VRel I w' ρ v c):Now E e N (setF F (some nx) v) (H.set b (some o)) I ρ (a.put (some nx) c) w':=by
 have hl:(H.set b (some o)).length=H.length:=List.length_set;refine⟨h.imm,h.map,h.ext.trans h.imm st.ext,st.rel.fewer ?_,by rw[hl];exact h.nrel,?_,by rw[hl];exact h.low,by rw[put_defers];exact h.marks.mono (λ_ h=>h) (λc hc=>st.ext.keep c (.inl hc))⟩
 ·exact eff_le H (.set b o)
 ·exact(FRel.mono h.frm (λv c hv=>st.vrel hv)).set (by intro s hs;cases hs;exact hnx) hv
theorem mloop_ok(ok:EnvOk E){call:FuncId→List AV→Heap→Option (AV×Heap)}(hcall:CallsOk E call){fid:Nat}{ro:Option Nat}{e:Entry}{N lf:Nat}{keep:Nat→List Nat}{rest:Code}(hrest:CodeP E call fid ro e N lf keep rest)
 {id:Nat}{ops:Array Oper}{it nx:Nat}{ors:List Oper}(hnx:nxOf ops.toList=some (it,nx,ors)){R:Type}{cur:Nat}(hrf:RFOk E fid N keep ro cur rest){k:AExit→Frm→Heap→Option R}{r:R}{Q:Exit→Act→World→Prop}
 (hQ:∀x F H I ρ a w,Now E e N F H I ρ a w→k x F H=some r→Q x.conv a w){F:Frm}{H:Heap}{I:Nat→Prop}{ρ:PMap}{a:Act}{w:World}(hnow:Now E e N F H I ρ a w)
 (hrun:mloop e.m it (keep cur) (λF H k=>aevC E e.m N keep call lf cur (.seq (.region id ops false) rest) F H k) F H k=some r):(Code.loop (.seq (.region id ops false) rest)).wpIn (wf ro) 0 E.P Q a w:=by
 obtain⟨o0,hops,hop,hdst,hgd⟩:∃o0,ops.toList=o0::ors∧o0.op = .next (.tmp it) false∧o0.dst=some nx∧o0.guard=none:=by
  unfold nxOf at hnx;split at hnx
  ·cases hnx
  ·rename_i o rest' he;split at hnx
   ·rename_i it' nx' h1 h2 h3;cases hnx;exact⟨o,he,h1,h2,h3⟩
   ·cases hnx
 unfold mloop at hrun;split at hrun
 case h_2=>cases hrun
 rename_i ks hks;split at hrun
 case h_2=>cases hrun
 rename_i r0 rs hmap;rw[cond_eq_ite]at hrun;split at hrun
 case isFalse=>cases hrun
 rename_i hall;have hord:∀o,o.Perm ks→orderM e.m it (keep cur) ks (λF H k=>aevC E e.m N keep call lf cur (.seq (.region id ops false) rest) F H k) [] o F H=some r0:=by
  intro o ho;have hm:=List.mem_map_of_mem (f:=λo=>orderM e.m it (keep cur) ks (λF H k=>aevC E e.m N keep call lf cur (.seq (.region id ops false) rest) F H k) [] o F H) (permsZ_mem ho);rw[hmap]at hm;rcases List.mem_cons.1 hm with h|h
  ·exact h
  ·exact same3_eq (List.all_eq_true.1 hall _ h)
 refine wp_loop_n (n:=ks.length+1) (λn a w=>∃F H I ρ acc R,Now E e N F H I ρ a w∧R.length+1=n∧(acc++R).Perm ks∧
  ∀o,o.Perm R→orderM e.m it (keep cur) ks (λF H k=>aevC E e.m N keep call lf cur (.seq (.region id ops false) rest) F H k) acc o F H=some r0) ?_ ?_ ⟨F,H,I,ρ,[],ks,hnow,rfl,List.Perm.refl _,hord⟩
 ·rintro n a w ⟨F,H,I,ρ,acc,R,hnow,hn,hperm,hord⟩
  -- the head
  have head:∀{act:Option Int} {e' F' H'},roundM e.m it (keep cur) ks acc (λF H k=>aevC E e.m N keep call lf cur (.seq (.region id ops false) rest) F H k) act F H=some (e',F',H')→
   ∃F1 H1 ρ1 b arm,gcD e.m (keep cur) F H=some (F1,H1)∧Now E e N F1 H1 I ρ1 a w∧getF F1 it = .ptr b 0 0∧HeapF H1 b=some (.miter ks acc arm)∧
    aevC E e.m N keep call lf cur (.seq (.region id ops false) rest) F1 (H1.set b (some (.miter ks acc (some act)))) (λe F' H'=>some (e,F',H'))=some (e',F',H'):=by
   intro act e' F' H' hr;unfold roundM at hr;split at hr
   case h_2=>cases hr
   rename_i F1 H1 hg;split at hr
   case h_2=>cases hr
   rename_i H2 ha;unfold armH at ha;split at ha
   case h_2=>cases ha
   rename_i b hb;split at ha
   case h_2=>cases ha
   rename_i ks' vis arm hhb;rw[cond_eq_ite]at ha;split at ha
   case isFalse=>cases ha
   rename_i hc;simp only[Bool.and_eq_true,decide_eq_true_eq]at hc;obtain⟨rfl,rfl⟩:=hc;cases ha;have hg':=hg;unfold gcD at hg';dsimp only at hg';rw[cond_eq_ite]at hg';split at hg'
   case isFalse=>cases hg'
   rename_i hc;simp only[Bool.and_eq_true,List.all_eq_true,Nat.ble_eq]at hc;cases hg';obtain⟨ρ',hn'⟩:=(hnow.keep (keep cur)).gc (nodup_of hc.1.1) hc.1.2;exact⟨_,_,ρ',b,arm,hg,hn',hb,hhb,hr⟩
  -- one round,after the answer
  have main:∀{act:Option Int} {e':AExit} {F':Frm} {H':Heap} {F1:Frm} {H1:Heap} {ρ1:PMap} {b:Nat} {arm:Option (Option Int)} {v:AV} {o1:AObj} {c:Value} {w':World},
   Now E e N F1 H1 I ρ1 a w→getF F1 it = .ptr b 0 0→HeapF H1 b=some (.miter ks acc arm)→
   (nextM F1 (H1.set b (some (.miter ks acc (some act)))) it=some (v,(H1.set b (some (.miter ks acc (some act)))).set b (some o1)))→
   (Instr.next (a.eval (.tmp it)) false o0.type).run E.P w = .ok c w'→Stepped E.G I e.K ρ1 w I ρ1 ((HeapF H1).eff H1.length (.set b o1)) w'→VRel I w' ρ1 v c→
   aevC E e.m N keep call lf cur (.seq (.region id ops false) rest) F1 (H1.set b (some (.miter ks acc (some act)))) (λe F' H'=>some (e,F',H'))=some (e',F',H')→
   ∀{Q':Exit→Act→World→Prop},(∀I ρ a w,Now E e N F' H' I ρ a w→Q' e'.conv a w)→(Code.seq (.region id ops false) rest).wpIn (wf ro) 0 E.P Q' a w:=by
   intro act e' F' H' F1 H1 ρ1 b arm v o1 c w' hn1 hb hhb hnm hnext hst hv hr Q' hQ';unfold aevC at hr;unfold aevC at hr;rw[hnx]at hr;simp only[Bool.false_or,cond_eq_ite]at hr;split at hr
   case isTrue=>cases hr
   rename_i hlt;have hlt:nx<N:=by simpa[Nat.blt_eq]using hlt
   rw[hnm]at hr;simp only[List.set_set]at hr;have hn3:=hn1.step (heapF_in hhb) hst hlt hv;refine wpIn_seq (wpIn_region ?_);have hlen:List.range ops.size=0::List.range' 1 ors.length:=by rw[List.range_eq_range',←Array.length_toList,hops,List.length_cons,List.range'_succ]
   rw[hlen];have ho:ops[0]?=some o0:=by
    have:ops.toList[0]?=some o0:=by rw[hops];rfl
    simpa using this
   refine wpOps_here ho (by simp[Region.wanted,hgd]) ?_;refine wpIn_of (by rw[hop];intro c hc;cases hc) ?_;have hx:(execOp a.eval o0).run E.P w = .ok (.value c) w':=by
    have:execOp a.eval o0=(do pure (.value (←Instr.next (a.eval (.tmp it)) false o0.type))):=by obtain⟨d,op,ty,pos,after,guard⟩:=o0;simp only at hop;subst hop;rfl
    rw[this];simp[hnext]
   rw[hx,Oper.uponIn_value,hdst];refine runOps_seq ok hcall (ops:=ops) (k:=λF' H'=>aevC E e.m N keep call lf cur rest F' H' λe F' H'=>some (e,F',H')) ?_ ors 1 _ _ _ _ _ _ _ (by rw[hops];rfl) hn3 hr;intro F H I ρ a w hn hk;refine hrest hrf ?_ hn hk;intro x F H I ρ a w hn hk;cases hk;exact hQ' I ρ a w hn
  -- what the iterator answers
  have answer:∀{F1:Frm} {H1:Heap} {ρ1:PMap} {b:Nat} {arm:Option (Option Int)},Now E e N F1 H1 I ρ1 a w→getF F1 it = .ptr b 0 0→HeapF H1 b=some (.miter ks acc arm)→
   (∃i,i∈ks∧i∉acc∧∃w',(Instr.next (a.eval (.tmp it)) false o0.type).run E.P w = .ok (.tuple #[.bool true,.int .i64 i,.bool true]) w'∧Stepped E.G I e.K ρ1 w I ρ1 ((HeapF H1).eff H1.length (.set b (.miter ks (acc++[i]) none))) w')∨
    ((∀i∈ks,i∈acc)∧∃w',(Instr.next (a.eval (.tmp it)) false o0.type).run E.P w = .ok (.tuple #[.bool false]) w'∧Stepped E.G I e.K ρ1 w I ρ1 ((HeapF H1).eff H1.length (.set b (.miter ks acc none))) w'):=by
   intro F1 H1 ρ1 b arm hn1 hb hhb;have hp:=hn1.frm.2 it;rw[hb]at hp;simp only[VRel]at hp;obtain⟨m,hm,hpe⟩:=hp;obtain⟨m',hm',_,_,h0,_⟩:=hn1.rel.live b _ hhb;obtain rfl:m=m':=Option.some.inj (hm.symm.trans hm');have:a.eval (.tmp it) = .pointer (some ⟨m.blk,0,none⟩):=by show a.tmps.getD it undef=_;rw[hpe,h0];simp
   rw[this];exact next_set hn1.rel hhb hm o0.type
  have nodup:∀{H1:Heap} {ρ1:PMap} {F1:Frm} {b:Nat} {arm:Option (Option Int)},Now E e N F1 H1 I ρ1 a w→HeapF H1 b=some (.miter ks acc arm)→ks.Nodup:=by
   intro H1 ρ1 F1 b arm hn1 hhb;obtain⟨m',hm',_,_,h0,ho⟩:=hn1.rel.live b _ hhb;rcases ho with ⟨h1,_⟩|⟨c,es,cl,seen,_,_,hs,_⟩
   ·rw[h1];exact List.nodup_nil
   ·exact hs.2.2.1
  have hset:∀{H1:Heap} {b:Nat} {arm:Option (Option Int)} (act:Option Int),HeapF H1 b=some (.miter ks acc arm)→HeapF (H1.set b (some (.miter ks acc (some act)))) b=some (.miter ks acc (some act)):=by intro H1 b arm act hhb;rw[HeapF_set,if_pos ⟨rfl,heapF_in hhb⟩]
  cases R with
  |nil=>
   have h1:=hord [] (List.Perm.refl _);unfold orderM at h1;split at h1
   ·cases h1
   ·rename_i e' F' H' hne hr;cases h1;obtain⟨F1,H1,ρ1,b,arm,hg,hn1,hb,hhb,hr1⟩:=head hr;rcases answer hn1 hb hhb with ⟨i,hi,hni,_⟩|⟨_,w',hw',hst⟩
    ·have:=hperm.mem_iff.2 hi;rw[List.append_nil]at this;exact absurd this hni
    ·refine main (v:=.tuple [.bool false]) (c:=.tuple #[.bool false]) hn1 hb hhb (by unfold nextM;rw[hb,];simp only[hset none hhb]) hw' hst (by simp only[VRel];exact⟨_,rfl,by simp only[VRels];exact⟨_,_,rfl,by simp[VRel],rfl⟩⟩) hr1 ?_;intro I ρ a w hn;have hq:=hQ e' F' _ I ρ a w (hn.dropIt it) hrun;cases e' with
     |normal=>exact(hne rfl).elim
     |exit id=>exact hq
     |ret=>exact hq
   ·cases h1
  |cons x R=>
   have h1:=hord (x::R) (List.Perm.refl _);have hr0:∃e' F' H',roundM e.m it (keep cur) ks acc (λF H k=>aevC E e.m N keep call lf cur (.seq (.region id ops false) rest) F H k) (some x) F H=some (e',F',H'):=by
    unfold orderM at h1;split at h1
    ·rename_i F' H' hr;exact⟨_,_,_,hr⟩
    ·cases h1
   obtain⟨_,_,_,hr0⟩:=hr0;obtain⟨F1,H1,ρ1,b,arm,hg,hn1,hb,hhb,_⟩:=head hr0;have hnd:=nodup hn1 hhb;rcases answer hn1 hb hhb with ⟨i,hi,hni,w',hw',hst⟩|⟨hall',_⟩
   ·have hiR:i∈x::R:=by
     rcases List.mem_append.1 (hperm.mem_iff.2 hi)with h|h
     ·exact absurd h hni
     ·exact h
    have hpe:(i::(x::R).erase i).Perm (x::R):=(List.perm_cons_erase hiR).symm;have h2:=hord _ hpe;unfold orderM at h2;split at h2
    case h_2=>cases h2
    rename_i F' H' hr;obtain⟨F1',H1',ρ1',b',arm',hg',hn1',hb',hhb',hr1⟩:=head hr;rw[hg]at hg';cases hg';rw[hb]at hb';cases hb';refine main (v:=.tuple [.bool true,.int .i64 i,.bool true]) (c:=.tuple #[.bool true,.int .i64 i,.bool true]) hn1 hb hhb (by unfold nextM;rw[hb];simp only[hset (some i) hhb]) hw' hst
     (by simp only[VRel];exact⟨_,rfl,by simp only[VRels];exact⟨_,_,rfl,by simp[VRel],_,_,rfl,by simp[VRel],_,_,rfl,by simp[VRel],rfl⟩⟩) hr1 ?_
    intro I2 ρ2 a2 w2 hn2;refine⟨F',H',I2,ρ2,acc++[i],(x::R).erase i,hn2,?_,?_,?_⟩
    ·have:=hpe.length_eq;simp only[List.length_cons]at this hn⊢;omega
    ·rw[List.append_assoc];exact(hpe.append_left acc).trans hperm
    ·intro o ho;have h3:=hord (i::o) ((ho.cons i).trans hpe);unfold orderM at h3;rw[hr]at h3;exact h3
   ·have hx:x∈ks:=hperm.mem_iff.1 (by simp);have hnd2:=hperm.nodup_iff.2 hnd;rw[List.nodup_append]at hnd2;exact absurd rfl (hnd2.2.2 x (hall' x hx) x (by simp))
 ·rintro a w ⟨F,H,I,ρ,acc,R,_,hn,_⟩
  omega
/-! ### a loop over a function -/
theorem slotF_get:∀(F:List (Nat×AV)) (s:Nat),slotF F s=getF F s
 | [],s=>rfl
 |(t,v)::F,s=>by simp only[slotF,getF,slotF_get F s]
theorem yGet_some{H:Heap}{b:Nat}{st:YSt}(h:yGet H b=some st):∃y F,HeapF H b=some (.yloop y F st):=by
 unfold yGet at h;split at h
 ·rename_i y F st' hb;cases h;exact⟨y,F,hb⟩
 ·cases h
theorem ySet_some{H H':Heap}{b:Nat}{old new:YSt}(h:ySet H b old new=some H'):∃y F,HeapF H b=some (.yloop y F old)∧H'=H.set b (some (.yloop y F new)):=by
 unfold ySet at h;split at h
 ·rename_i y F st hb;rw[cond_eq_ite]at h;split at h
  ·rename_i hst;have hst:=of_decide_eq_true hst;subst hst;cases h;exact⟨y,F,hb,rfl⟩
  ·cases h
 ·cases h
theorem Now.yput{e:Entry}{N:Nat}{F:Frm}{H:Heap}{I:Nat→Prop}{ρ:PMap}{a:Act}{w:World}(h:Now E e N F H I ρ a w){b y:Nat}{F0:Frm}{old new:YSt}{m:Pl}{r r':Loop}
 (hb:HeapF H b=some (.yloop y F0 old))(hm:ρ b=some m)(hr:w.heap[m.blk]?=some (.loop r))(hsame:r'.tmps=r.tmps∧r'.params=r.params∧r'.assign=r.assign∧r'.body=r.body)
 (hst:match new with
  |.ready=>r'.state = .ready∧r'.pending=none
  |.busy=>r'.state = .busy
  |.done j=>r'.state = .done∧r'.pending=some (jumpOf j)):Now E e N F (H.set b (some (.yloop y F0 new))) I ρ a (w.putObj m.blk (.loop r')):=by
 obtain⟨m',hm',hnI,hnK,ri,r0,h0,h1,h2,h3,h4,h5,h6,h7⟩:=h.rel.live b _ hb;obtain rfl:m=m':=Option.some.inj (hm.symm.trans hm');obtain rfl:r=r0:=by rw[hr]at h1;cases h1;rfl
 have hlt:=h.rel.dom b m hm;have hIw:∀c,I c→(w.putObj m.blk (.loop r')).heap[c]?=w.heap[c]?:=λc hc=>World.putObj_heap_other (λe=>hnI (e▸hc));have st:Stepped E.G I e.K ρ w I ρ ((HeapF H).eff H.length (.set b (.yloop y F0 new))) (w.putObj m.blk (.loop r')):=by refine stepped_set h.rel hb hm (by simp) (λc hc=>World.putObj_heap_other hc) rfl rfl rfl ?_;refine⟨ri,r',h0,World.putObj_heap_same hlt,by rw[hsame.1];exact h2,by rw[hsame.2.1];exact h3,by rw[hsame.2.2.1];exact h4,by rw[hsame.2.2.2];exact h5,λs=>?_,hst⟩;rw[hsame.1];exact VRel.mono (λ_ h=>h) hIw _ (λ_ _ h=>h) (h6 s)
 have hl:(H.set b (some (AObj.yloop y F0 new))).length=H.length:=List.length_set;exact⟨h.imm,h.map,h.ext.trans h.imm st.ext,st.rel.fewer (eff_le H (.set b (.yloop y F0 new))),by rw[hl];exact h.nrel,FRel.mono h.frm (λv c hv=>st.vrel hv),by rw[hl];exact h.low,h.marks.mono (λ_ h=>h) (λc hc=>st.ext.keep c (.inl hc))⟩
def YSt.jump:YSt→Option Code
 |.done j=>some (jumpOf j)
 |_=>none
theorem rf_ok(ok:EnvOk E){call:FuncId→List AV→Heap→Option (AV×Heap)}(hcall:CallsOk E call){fid:Nat}{e:Entry}{N lf:Nat}{keep:Nat→List Nat}{g:Operand}{ps:Array Tmp}{asg body:Code}
 {R:Type}{cur:Nat}(hrf:RFOk E fid N keep none cur (.rangeFunc g ps asg body)){k:AExit→Frm→Heap→Option R}{r:R}{Q:Exit→Act→World→Prop}(hQ:∀x F H I ρ a w,Now E e N F H I ρ a w→k x F H=some r→Q x.conv a w)
 {F:Frm}{H:Heap}{I:Nat→Prop}{ρ:PMap}{a:Act}{w:World}(hnow:Now E e N F H I ρ a w)(hrun:aevC E e.m N keep call lf cur (.rangeFunc g ps asg body) F H k=some r) :
 (Code.rangeFunc g ps asg body).wpIn (wf none) 0 E.P Q a w:=by
 unfold aevC at hrun;split at hrun
 case h_2=>cases hrun
 rename_i gf fs cs y hfv hy;rw[cond_eq_ite]at hrun;split at hrun
 case isFalse=>cases hrun
 rename_i hc;simp only[Bool.and_eq_true,Bool.not_eq_true']at hc;obtain⟨hg,_⟩:=hc;split at hrun
 case h_2=>cases hrun
 rename_i v H2 σ hloc;obtain⟨y',hy',hri⟩:=hrf.2 (cur,⟨N,ps.toList,asg,body,fid⟩) (by simp[rfs]);rw[hy]at hy';cases hy';have hf:=opv_ok hnow.rel hnow.frm g;rw[hfv]at hf;simp only[VRel]at hf;obtain⟨fs',cs',hfe,hfs,hcs⟩:=hf;refine wpIn_rangeFunc (F:=Fence.wide) (λfn _=>?_)
 let rec0:Loop:={ state:=.ready,pending:=none,fn,tmps:=a.tmps,params:=ps,assign:=asg,body,defers:=w.heap.size }
 let w1:World:=w.alloc (.deferred (some []))
 let w2:World:=w1.alloc (.loop rec0)
 let m:Pl:=⟨w.heap.size+1,0,0,0⟩
 let Y:AObj:=.yloop y (keepF (keep cur) F) .ready
 have hs1:w1.heap.size=w.heap.size+1:=by simp[w1]
 have st1:Stepped E.G I e.K ρ w (λc=>I c∨c=w.heap.size) ρ (HeapF H) w1:=stepped_imm hnow.rel (ob:=.deferred (some [])) rfl rfl rfl rfl;have hold:∀b q,ρ b=some q→(ρ.set H.length m) b=some q:=PMap.set_old (hnow.nrel _ (Nat.le_refl _));have hw2:∀c,c<w1.heap.size→w2.heap[c]?=w1.heap[c]?:=by intro c hc;show(w1.heap.push _)[c]?=_;rw[Array.getElem?_push,if_neg (by omega)]
 have st2:Stepped E.G (λc=>I c∨c=w.heap.size) e.K ρ w1 (λc=>I c∨c=w.heap.size) (ρ.set H.length m) ((HeapF H).eff H.length (.new Y)) w2:=by
  refine stepped_new st1.rel (HeapF_none H) (hnow.nrel _ (Nat.le_refl _)) (ob:=.loop rec0) rfl rfl rfl rfl hs1.symm ?_;refine⟨_,rec0,hri,?_,hnow.frm.1,rfl,rfl,rfl,λs=>?_,rfl,rfl⟩
  ·have:=World.alloc_heap_new w1 (.loop rec0);rw[hs1]at this;exact this
  ·rw[slotF_get,getF_keep];split
   ·exact VRel.mono (λc hc=>hc) (λc hc=>hw2 c (st1.rel.imm c hc)) _ hold (st1.vrel (hnow.frm.2 s))
   ·simp[VRel]
 have hrel2:HRel E.G (λc=>I c∨c=w.heap.size) e.K (ρ.set H.length m) (HeapF (H++[some Y])) w2:=st2.rel.fewer (eff_le H (.new Y));have hn2:NRel (ρ.set H.length m) (H++[some Y]).length:=by intro b hb;simp only[List.length_append,List.length_cons,List.length_nil]at hb;simp only[PMap.set];rw[if_neg (by omega)];exact hnow.nrel b (by omega)
 have up:∀{v:AV} {c:Value},VRel I w ρ v c→VRel (λc=>I c∨c=w.heap.size) w2 (ρ.set H.length m) v c:=λhv=>st2.vrel (st1.vrel hv);have ups:∀{v:List AV} {c:List Value},VRels I w ρ v c→VRels (λc=>I c∨c=w.heap.size) w2 (ρ.set H.length m) v c:=λhv=>st2.vrels (st1.vrels hv);have hargs:VRels (λc=>I c∨c=w.heap.size) w2 (ρ.set H.length m) (fs++[.yfn H.length]++cs) (fs' ++ #[Value.func (.yield (w.heap.size+1)) #[] #[]]++cs').toList:=by simp only[Array.toList_append];refine VRels.append (VRels.append (ups hfs) ?_) (ups hcs);simp only[VRels];exact⟨_,_,rfl,by simp only[VRel];exact⟨m,by simp[PMap.set],rfl⟩,rfl⟩
 have hcalls:=callLoc_ok (hcall gf) hloc hrel2 hn2 hargs;obtain⟨i,hi⟩:=Option.isSome_iff_exists.1 hg;rw[XOf_fn (fn_ne ok hi)]at hcalls;have harr:(fs' ++ #[Value.func (.yield (w.heap.size+1)) #[] #[]]++cs').toList.toArray=fs' ++ #[Value.func (.yield (w.heap.size+1)) #[] #[]]++cs':=by apply Array.ext';simp
 rw[harr]at hcalls;refine⟨w.heap.size+1,[{ target:=.collected w.heap.size,args:=#[] }],w2,⟨.fn (.func gf) cs',fs' ++ #[Value.func (.yield (w.heap.size+1)) #[] #[]]⟩,w2,gf,_,w2,run_enterLoop_outer fn a.tmps ps asg body,?_,λ_ _=>trivial,?_,λh=>by simp[Fence.wide]at h,callsIn_wide.2 (Calls.mono hcalls ?_)⟩
 ·have hcst:a.eval (.const (Value.func (.yield (w.heap.size+1)) #[] #[]))=Value.func (.yield (w.heap.size+1)) #[] #[]:=rfl;simp only[resolve,rangeCall,hfe,Deferred.ofValue,List.map_toArray,List.map_cons,List.map_nil,hcst];rfl
 ·simp only[invoke];exact callFunc_enter ok hg _
 rintro en w3 ⟨c,I',ρ',rfl,hret,hvc⟩
 rw[List.length_append,List.length_singleton]at hret
 -- behind the loop
 have fin:∀(st:YSt),yGet H2 H.length=some st→∀(hnb:st≠ .busy),∃w4,(Instr.endLoop (w.heap.size+1)).run E.P w3 = .ok st.jump w4∧
  Now E e N F (H2.set H.length none) I' ρ' { a with defers:=[{ target:=.collected w.heap.size,args:=#[] }]++a.defers } w4:=by
  intro st hst hnb;obtain⟨y1,F1,hb⟩:=yGet_some hst;obtain⟨m1,hm1,hnI,hnK,ri1,r1,g0,g1,g2,g3,g4,g5,g6,g7⟩:=hret.rel.live _ _ hb;have hm:ρ' H.length=some m:=by rw[hret.map _ (by omega)];simp[PMap.set]
  obtain rfl:m=m1:=Option.some.inj (hm.symm.trans hm1);have hst1:r1.state≠ .busy∧r1.pending=st.jump:=by
   cases st with
   |ready=>exact⟨by rw[g7.1];simp,g7.2⟩
   |busy=>exact absurd rfl hnb
   |done j=>exact⟨by rw[g7.1];simp,g7.2⟩
  have hend:=run_endLoop (P:=E.P) g1 hst1.1;refine⟨w3.putObj m.blk (.loop { r1 with state:=.exhausted }),by rw[←hst1.2];exact hend,?_⟩;have hlow:=hret.low;have hbH:H.length<H2.length:=by omega
  have st4:Stepped E.G I' e.K ρ' w3 I' ρ' (HeapF (H2.set H.length none)) (w3.putObj m.blk (.loop { r1 with state:=.exhausted })):=by
   refine stepped_away (c0:=m.blk) (hret.rel.fewer ?_) hnI hnK ?_ (by simp) (λc hc=>World.putObj_heap_other hc) rfl rfl rfl
   ·intro b o hb;rw[HeapF_set]at hb;split at hb
    ·cases hb
    ·exact hb
   ·intro b o q hb' hq he;rw[HeapF_set]at hb';split at hb'
    ·cases hb'
    ·rename_i hne;have:=hret.rel.inj b H.length q m (by simp[hb']) (by simp[hb]) hq hm he;exact hne ⟨this.symm,hbH⟩
  have hI':∀c,I c→I' c:=λc hc=>hret.imm c (.inl hc);have hext:Ext I e.K w (w3.putObj m.blk (.loop { r1 with state:=.exhausted })):=((st1.ext.trans (λ_ h=>.inl h) st2.ext).trans (λ_ h=>.inl h) hret.ext).trans hI' st4.ext;have hρ':∀b q,ρ b=some q→ρ' b=some q:=by
   intro b q hq;have hbl:b<H.length:=by
    rcases Nat.lt_or_ge b H.length with h|h
    ·exact h
    ·rw[hnow.nrel b h]at hq;cases hq
   rw[hret.map b (by omega)];exact hold b q hq
  have hl:(H2.set H.length none).length=H2.length:=List.length_set;refine⟨λc hc=>hI' c (hnow.imm c hc),λb hb=>?_,hnow.ext.trans hnow.imm hext,st4.rel,by rw[hl];exact hret.nrel,FRel.mono hnow.frm (λv c hv=>VRel.mono hI' (λc hc=>hext.keep c (.inl hc)) v hρ' hv),by rw[hl];have:=hnow.low;omega,?_⟩
  ·have:=hnow.low;rw[hret.map b (by omega)];simp only[PMap.set];rw[if_neg (by omega)];exact hnow.map b hb
  ·obtain⟨rs,q1,q2,q3⟩:=hnow.marks;refine⟨w.heap.size::rs,by rw[q1];rfl,List.nodup_cons.2 ⟨λhm=>?_,q2⟩,?_⟩
   ·have:=(Array.getElem?_eq_some_iff.1 (q3 _ hm).2.2).1;omega
   ·intro q hq;rcases List.mem_cons.1 hq with rfl|hq
    ·refine⟨hret.imm _ (.inr rfl),hnow.ext.size,?_⟩;rw[World.putObj_heap_other (by show w.heap.size≠w.heap.size+1;omega),hret.ext.keep _ (.inl (.inr rfl)),hw2 _ (by omega)];exact World.alloc_heap_new w _
    ·obtain⟨p1,p2,p3⟩:=q3 q hq;exact⟨hI' q p1,p2,by rw[hext.keep q (.inl p1)];exact p3⟩
 show rangePost Fence.wide 0 E.P (w.heap.size+1) Q _ (.returned c) w3;split at hrun
 ·rename_i hst;obtain⟨w4,h1,h2⟩:=fin _ hst (by simp);exact⟨none,w4,h1,hQ .normal _ _ _ _ _ _ h2 hrun⟩
 ·rename_i hst;obtain⟨w4,h1,h2⟩:=fin _ hst (by simp);exact⟨some .ret,w4,h1,wpIn_ret (hQ .ret _ _ _ _ _ _ h2 hrun)⟩
 ·rename_i id hst;obtain⟨w4,h1,h2⟩:=fin _ hst (by simp);exact⟨some (.exit id),w4,h1,wpIn_exit (hQ (.exit id) _ _ _ _ _ _ h2 hrun)⟩
 ·cases hrun
theorem code_all(ok:EnvOk E){call:FuncId→List AV→Heap→Option (AV×Heap)}(hcall:CallsOk E call){fid:Nat}{ro:Option Nat}{e:Entry}{N lf:Nat}{keep:Nat→List Nat}:∀(c:Code),
 (drawsAt false c=true→CodeP E call fid ro e N lf keep c)∧(∀x r,c = .seq x r→drawsAt false r=true→CodeP E call fid ro e N lf keep r):=by
 intro c
 induction c with
 |skip=>exact⟨λ_ R cur hrf k r Q hQ F H I ρ a w hnow hrun=>wpIn_skip (hQ .normal F H I ρ a w hnow hrun),λ_ _ h=>by cases h⟩
 |label l=>exact⟨λ_ R cur hrf k r Q hQ F H I ρ a w hnow hrun=>wpIn_label (hQ .normal F H I ρ a w hnow hrun),λ_ _ h=>by cases h⟩
 |exit id=>exact⟨λ_ R cur hrf k r Q hQ F H I ρ a w hnow hrun=>wpIn_exit (hQ (.exit id) F H I ρ a w hnow hrun),λ_ _ h=>by cases h⟩
 |ret=>exact⟨λ_ R cur hrf k r Q hQ F H I ρ a w hnow hrun=>wpIn_ret (hQ .ret F H I ρ a w hnow hrun),λ_ _ h=>by cases h⟩
 |region id ops draw=>
  refine⟨?_,λ_ _ h=>by cases h⟩;intro hst R cur hrf k r Q hQ F H I ρ a w hnow hrun;have hQ':∀F H I ρ a w,Now E e N F H I ρ a w→k .normal F H=some r→Q .normal a w:=λF H I ρ a w h hk=>hQ .normal _ H I ρ a w h hk;unfold drawsAt at hst;unfold aevC at hrun;cases hnx:nxOf ops.toList with
  |some x=>rw[hnx]at hst;cases hst
  |none=>
   rw[hnx]at hst hrun;cases draw with
   |true=>exact runOps_draw (ops:=ops) ok hcall hst hQ' hnow hrun id
   |false=>refine wpIn_region ?_;have:=runOps_seq (ro:=ro) ok hcall (ops:=ops) hQ' ops.toList 0 [] F H I ρ a w rfl hnow hrun;rw[List.range_eq_range',←Array.length_toList];exact this
 |seq x y ihx ihy=>
  refine⟨?_,λ_ _ h hd=>by cases h;exact ihy.1 hd⟩;intro hst R cur hrf k r Q hQ F H I ρ a w hnow hrun;simp only[drawsAt,Bool.and_eq_true]at hst;refine wpIn_seq (ihx.1 hst.1 hrf.seq1 ?_ hnow hrun);intro x F H I ρ a w hn hk;cases x with
  |normal=>exact ihy.1 hst.2 hrf.seq2 hQ hn hk
  |exit id=>exact hQ (.exit id) F H I ρ a w hn hk
  |ret=>exact hQ .ret F H I ρ a w hn hk
 |cond c x y ihx ihy=>
  refine⟨?_,λ_ _ h=>by cases h⟩;intro hst R cur hrf k r Q hQ F H I ρ a w hnow hrun;simp only[drawsAt,Bool.and_eq_true]at hst;unfold aevC at hrun;split at hrun
  case h_2=>cases hrun
  rename_i t ht;have hc:=opv_ok hnow.rel hnow.frm c;rw[ht]at hc;simp only[VRel]at hc;cases t
  ·exact wpIn_cond_false hc (ihy.1 hst.2 hrf.cond2 hQ hnow hrun)
  ·exact wpIn_cond_true hc (ihx.1 hst.1 hrf.cond1 hQ hnow hrun)
 |block id b ih=>
  refine⟨?_,λ_ _ h=>by cases h⟩;intro hst R cur hrf k r Q hQ F H I ρ a w hnow hrun;refine wpIn_block (ih.1 hst hrf.block ?_ hnow hrun);intro x F H I ρ a w hn hk;cases x with
  |normal=>exact hQ .normal F H I ρ a w hn hk
  |exit id'=>
   simp only[AExit.conv,Exit.inBlock];dsimp only at hk;rw[cond_eq_ite]at hk;split at hk
   ·rename_i h;rw[if_pos (by simpa using h)];exact hQ .normal F H I ρ a w hn hk
   ·rename_i h;rw[if_neg (by simpa using h)];exact hQ (.exit id') F H I ρ a w hn hk
  |ret=>exact hQ .ret F H I ρ a w hn hk
 |loop b ih=>
  refine⟨?_,λ_ _ h=>by cases h⟩;intro hst R cur hrf k r Q hQ F H I ρ a w hnow hrun;unfold drawsAt at hst;unfold aevC at hrun;cases hnl:nxLoop b with
  |some it=>
   rw[hnl]at hst hrun;unfold nxLoop at hnl;split at hnl
   case h_2=>cases hnl
   rename_i id ops rest;obtain⟨⟨it',nx,ors⟩,h1,h2⟩:=map_some_inv hnl;simp only at h2;subst h2;have hst:drawsAt true (.seq (.region id ops false) rest)=true:=hst;simp only[drawsAt,Bool.and_eq_true]at hst;exact mloop_ok ok hcall (ih.2 _ _ rfl hst.2) h1 hrf.loop.seq2 hQ hnow hrun
  |none=>
  rw[hnl]at hst hrun;refine wp_loop_n (n:=lf) (λn a w=>∃F H I ρ,Now E e N F H I ρ a w∧loopN e.m (keep cur) (λF H k=>aevC E e.m N keep call lf cur b F H k) n F H (λx F H=>bif frzB (keep cur)then k x (frzF (e.m+frzJ (keep cur)) H F) (frzH (e.m+frzJ (keep cur)) H)else k x F H)=some r) ?_ ?_ ⟨F,H,I,ρ,hnow,hrun⟩
  ·rintro n a w ⟨F,H,I,ρ,hnow,hrun⟩
   unfold loopN at hrun;dsimp only at hrun;rw[cond_eq_ite]at hrun;split at hrun
   case isFalse=>cases hrun
   rename_i hc;simp only[Bool.and_eq_true,List.all_eq_true,Nat.ble_eq]at hc;obtain⟨ρ',hn'⟩:=(hnow.keep (keep cur)).gc (nodup_of hc.1.1) hc.1.2;refine ih.1 hst hrf.loop ?_ hn' hrun;intro x F H I ρ a w hn hk;have hz:∀x,(bif frzB (keep cur)then k x (frzF (e.m+frzJ (keep cur)) H F) (frzH (e.m+frzJ (keep cur)) H)else k x F H)=some r→Q x.conv a w:=by
    intro x hk;rw[cond_eq_ite]at hk;split at hk
    ·obtain⟨I',ρ',h'⟩:=hn.frz (frzJ (keep cur));exact hQ x _ _ I' ρ' a w h' hk
    ·exact hQ x F H I ρ a w hn hk
   cases x with
   |normal=>exact⟨F,H,I,ρ,hn,hk⟩
   |exit id=>exact hz _ hk
   |ret=>exact hz _ hk
  ·rintro a w ⟨F,H,I,ρ,_,hrun⟩
   simp[loopN]at hrun
 |scope b ih=>
  refine⟨?_,λ_ _ h=>by cases h⟩;intro hst R cur hrf k r Q hQ F H I ρ a w hnow hrun;refine wpIn_scope_straight (ih.1 hst hrf.scope ?_ hnow hrun);intro x F H I ρ a w hn hk;cases x with
  |normal=>exact hQ .normal F H I ρ a w hn hk
  |exit id=>exact hQ (.exit id) F H I ρ a w hn hk
  |ret=>exact hQ .ret F H I ρ a w hn hk
 |rangeFunc f ps as b=>
  refine⟨λ_ R cur hrf k r Q hQ F H I ρ a w hnow hrun=>?_,λ_ _ h=>by cases h⟩;cases ro with
  |none=>exact rf_ok ok hcall hrf hQ hnow hrun
  |some l=>have:=hrf.1 rfl;simp[noRF]at this
 |goto l=>exact⟨λ_ R cur hrf k r Q hQ F H I ρ a w hnow hrun=>by simp[aevC]at hrun,λ_ _ h=>by cases h⟩
 |refuse s=>exact⟨λ_ R cur hrf k r Q hQ F H I ρ a w hnow hrun=>by simp[aevC]at hrun,λ_ _ h=>by cases h⟩
theorem code_ok(ok:EnvOk E){call:FuncId→List AV→Heap→Option (AV×Heap)}(hcall:CallsOk E call){fid:Nat}{ro:Option Nat}{e:Entry}{N lf:Nat}{keep:Nat→List Nat}{R:Type}(c:Code)(hd:drawsOk c=true)
 {cur:Nat}(hrf:RFOk E fid N keep ro cur c){k:AExit→Frm→Heap→Option R}{r:R}{Q:Exit→Act→World→Prop}(hQ:∀x F H I ρ a w,Now E e N F H I ρ a w→k x F H=some r→Q x.conv a w)
 {F:Frm}{H:Heap}{I:Nat→Prop}{ρ:PMap}{a:Act}{w:World}(hnow:Now E e N F H I ρ a w)(hrun:aevC E e.m N keep call lf cur c F H k=some r):c.wpIn (wf ro) 0 E.P Q a w:=
 (code_all ok hcall c).1 hd hrf hQ hnow hrun
/-! ### a round -/
theorem frm_sets{I:Nat→Prop}{w:World}{ρ:PMap}{N:Nat}:∀{ps:List Nat} {vs:List AV} {cs:List Value} {F:Frm} {t:Array Value},FRel I w ρ N F t→VRels I w ρ vs cs→vs.length=ps.length→(∀p∈ps,p<N)→
 FRel I w ρ N (setsF F ps vs) ((ps.zip cs).foldl (λt (p,c)=>t.setIfInBounds p c) t)
 | [],[],cs,F,t,hF,h,_,_=>by simp only[VRels]at h;subst h;simpa[setsF]using hF
 | [],_::_,_,_,_,_,_,h,_=>by simp at h
 |_::_,[],_,_,_,_,_,h,_=>by simp at h
 |p::ps,v::vs,cs,F,t,hF,h,hl,hp=>by simp only[VRels]at h;obtain⟨c,cs',rfl,h1,h2⟩:=h;simp only[setsF,List.zip_cons_cons,List.foldl_cons];have:=FRel.set (a:={ tmps:=t,defers:=[] }) (d:=some p) hF (λs hs=>by cases hs;exact hp p (by simp)) h1;exact frm_sets this h2 (by simpa using hl) (λq hq=>hp q (by simp[hq]))
def RndOk(E:Env):Prop:=∀y ri,E.G.rnd y=some ri→drawsOk ri.asg=true∧drawsOk ri.body=true∧noRF ri.asg=true∧noRF ri.body=true
theorem runRound_ok(ok:EnvOk E)(hrnd:RndOk E){call:FuncId→List AV→Heap→Option (AV×Heap)}(hcall:CallsOk E call)(lf:Nat):FunOk E yId (runRound E call lf):=by
 intro args H v H' hrun I K ρ w cargs rel hn ha;rw[XOf_y];unfold runRound at hrun;split at hrun
 case h_2=>cases hrun
 rename_i b vs;split at hrun
 case h_2=>cases hrun
 rename_i y F hb;split at hrun
 case h_2=>cases hrun
 rename_i ri hri;rw[cond_eq_ite]at hrun;split at hrun
 case isFalse=>cases hrun
 rename_i hc;simp only[Bool.and_eq_true,Nat.beq_eq,List.all_eq_true,Nat.blt_eq]at hc;obtain⟨hlen,hps⟩:=hc;simp only[VRels]at ha;obtain⟨c0,cvs,rfl,h0,hvs⟩:=ha;simp only[VRel]at h0;obtain⟨m,hm,rfl⟩:=h0;obtain⟨m',hm',hnI,hnK,ri',r,g0,g1,g2,g3,g4,g5,g6,g7⟩:=rel.live b _ hb;obtain rfl:m=m':=Option.some.inj (hm.symm.trans hm');rw[hri]at g0;cases g0;obtain⟨d1,d2,d3,d4⟩:=hrnd y ri hri;have hsz:cvs.toArray.size=r.params.size:=by have:=VRels.length hvs;rw[←Array.length_toList (xs:=r.params),g3];simp;omega
 refine⟨m.blk,cvs,r.fn,_,r.assign,r.body,rfl,run_yield g1 hsz,roundIn_of_wpIn (F:=Fence.wide) trivial ?_⟩;rw[g4]
 let e:Entry:=⟨I,K,ρ,H.length,w,[]⟩
 have hblt:b<H.length:=heapF_in hb;have hfrm:FRel I w ρ ri.N (setsF F ri.ps vs) ((r.params.zip cvs.toArray).foldl (λtmps (t,a)=>tmps.setIfInBounds t a) r.tmps):=by
  have h1:FRel I w ρ ri.N F r.tmps:=⟨g2,λs=>by have:=g6 s;rwa [slotF_get]at this⟩
  have:=frm_sets (ps:=ri.ps) h1 hvs hlen hps;rw[←g3]at this⊢;rw[←Array.foldl_toList,Array.toList_zip];exact this
 have hnow:Now E e ri.N (setsF F ri.ps vs) H I ρ { tmps:=(r.params.zip cvs.toArray).foldl (λtmps (t,a)=>tmps.setIfInBounds t a) r.tmps,defers:=[] } w:=⟨λ_ h=>h,λ_ _=>rfl,Ext.refl _ _ _,rel,hn,hfrm,Nat.le_refl _,Marks.nil⟩
 have rf:∀c,noRF c=true→RFOk E ri.fid ri.N (E.keep ri.fid) (some m.blk) 0 c:=λc h=>⟨λ_=>h,λx hx=>by rw[rfs_none c 0 h]at hx;cases hx⟩
 refine code_ok (e:=e) (ro:=some m.blk) ok hcall ri.asg d1 (rf _ d3) ?_ hnow hrun;intro x F1 H1 I1 ρ1 a1 w1 hn1 hk
 -- the record,wherever the run has come to
 have recAt:∀{F1 H1 I1 ρ1 a1 w1 y1 F0 st},Now E e ri.N F1 H1 I1 ρ1 a1 w1→HeapF H1 b=some (.yloop y1 F0 st)→ρ1 b=some m∧∃r1:Loop,w1.heap[m.blk]?=some (.loop r1)∧(st = .ready→r1.state = .ready):=by
  intro F1 H1 I1 ρ1 a1 w1 y1 F0 st hn1 hb1;have hm1:ρ1 b=some m:=by rw[hn1.map b hblt];exact hm
  obtain⟨m1,q1,_,_,_,r1,_,q2,_,_,_,_,_,q3⟩:=hn1.rel.live b _ hb1;obtain rfl:m=m1:=Option.some.inj (hm1.symm.trans q1);exact⟨hm1,r1,q2,λe=>by subst e;exact q3.1⟩
 cases x with
 |exit id=>cases hk
 |ret=>cases hk
 |normal=>
  dsimp only at hk;split at hk
  case h_2=>cases hk
  rename_i H1' hys;obtain⟨y1,F0,hb1,rfl⟩:=ySet_some hys;obtain⟨hm1,r1,hr1,hst1⟩:=recAt hn1 hb1;have hn2:=hn1.yput (new:=.busy) (r':={ r1 with state:=.busy }) hb1 hm1 hr1 ⟨rfl,rfl,rfl,rfl⟩ rfl;refine⟨_,run_beginRound hr1 (hst1 rfl),?_⟩;rw[g5];refine code_ok (e:=e) (ro:=some m.blk) ok hcall ri.body d2 (rf _ d4) ?_ hn2 hk;intro x F3 H3 I3 ρ3 a3 w3 hn3 hk;have fin:∀(new:YSt) (bb:Bool) (jump:Option Code),jump.isNone=bb→(ySet H3 b .busy new).map (.bool bb,·)=some (v,H')→(match new with
   |.ready=>jump=none
   |.busy=>False
   |.done j=>jump=some (jumpOf j))→
   ∃v1 w4,(Instr.endRound m.blk jump).run E.P w3 = .ok v1 w4∧∃c I' ρ',Ending.returned v1 = .returned c∧Ret E I K ρ H.length w I' ρ' H' w4∧VRel I' w4 ρ' v c:=by
   intro new bb jump hj hk hnew;obtain⟨H4,hys,he⟩:=map_some_inv hk;cases he;obtain⟨y3,F4,hb3,rfl⟩:=ySet_some hys;obtain⟨hm3,r3,hr3,_⟩:=recAt hn3 hb3;have hn4:=hn3.yput (new:=new) (r':={ r3 with state:=if jump.isNone then .ready else .done,pending:=jump }) hb3 hm3 hr3 ⟨rfl,rfl,rfl,rfl⟩ (by
    cases new with
    |ready=>dsimp only at hnew⊢;subst hnew;exact⟨rfl,rfl⟩
    |busy=>exact hnew.elim
    |done j=>dsimp only at hnew⊢;subst hnew;exact⟨rfl,rfl⟩)
   exact⟨_,_,run_endRound jump hr3,_,I3,ρ3,rfl,⟨hn4.imm,hn4.map,hn4.ext,hn4.rel,hn4.nrel,hn4.low⟩,by simp only[VRel];rw[hj]⟩
  cases x with
  |normal=>exact fin .ready true none rfl hk rfl
  |ret=>exact fin (.done none) false (some .ret) rfl hk rfl
  |exit id=>exact fin (.done (some id)) false (some (.exit id)) rfl hk rfl
end
end Go.Ax
/- AxFun: functions. -/
namespace Go.Ax
section
variable {E:Env}{I K:Nat→Prop}{ρ:PMap}{h:FHeap}{w:World}
theorem aload_run(ok:EnvOk E)(r:HRel E.G I K ρ h w){t:TypeId}{p v:AV}{c:Value}(hl:aload E h t p=some v)(hp:VRel I w ρ p c) :
 ∃a d,c = .pointer (some a)∧(loadVar t a).run E.P w = .ok d w∧VRel I w ρ v d:=by
 cases p with
 |ptr b i o=>
  simp only[aload]at hl;cases hb:h b with
  |none=>simp[hb]at hl
  |some ob=>
   cases ob with
   |row k rows=>
    simp only[hb]at hl;cases hr:rows[i]? with
    |none=>simp[hr]at hl
    |some rw'=>
     simp only[hr]at hl;obtain⟨m,hm,_,_,ho⟩:=r.live b _ hb;obtain⟨hk,hk0,_,hrows⟩:=ho;obtain⟨hlen,hat⟩:=VRows.get i hrows hr;simp only[VRel]at hp;obtain⟨m',hm',rfl⟩:=hp;obtain rfl:m=m':=Option.some.inj (hm.symm.trans hm');by_cases hsz:o≤rw'.length
     ·have hat':VAt I w ρ ((rw'.drop o).take (E.sz t)) m.blk (m.off+i*m.k+o):=by
       rw[hk];exact VAt.take _ (VAt.drop o hsz hat)
      obtain⟨c,hc,hv⟩:=run_loadVar ok hl hat';exact⟨_,c,rfl,hc,hv⟩
     ·have:rw'.drop o=[]:=List.drop_eq_nil_of_le (by omega);rw[this]at hl;unfold ofCells at hl;simp only[List.take_nil,List.length_nil]at hl;rw[cond_eq_ite]at hl;split at hl
      ·rename_i h0;cases hd:E.und t with
       |none=>simp[hd]at hl
       |some d=>
        simp only[hd]at hl;have h0:E.sz t=0:=(show 0=E.sz t by simpa using h0).symm;cases hag:aggDesc d with
        |true=>simp[hag]at hl;subst hl;refine⟨_,.agg #[],rfl,?_,by simp only[VRel];exact⟨#[],rfl,by simp[VRels]⟩⟩;simp[loadVar,run_agg ok w hd,hag,run_sz ok w hd,h0,loadCells,loadCellsFrom]
        |false=>simp[hag]at hl
      ·cases hl
   |map ks vs bs cl=>simp[hb]at hl
   |siter s pos=>simp[hb]at hl
   |uset ks=>simp[hb]at hl
   |miter ks vis arm=>simp[hb]at hl
   |yloop y Fy st=>simp[hb]at hl
   |trow t x k rows=>simp[hb]at hl
 |iptr cs=>simp only[aload]at hl;simp only[VRel]at hp;obtain⟨b,off,rfl,hI,hat⟩:=hp;obtain⟨c,hc,hv⟩:=run_loadVar ok hl (VAt.take _ hat);exact⟨_,c,rfl,hc,VRel.noRef_any hv⟩
 |_=>simp[aload]at hl
def resF(tmps:Array Value):ResultVar→Sem Value:=fun
 |.tmp t=>pure (tmps.getD t undef)
 |.cell a t=>do loadVar t (←asAddr (tmps.getD a undef))
theorem aresults_ok(ok:EnvOk E){H:Heap}{F:Frm}{tmps:Array Value}(r:HRel E.G I K ρ (HeapF H) w)(hF:∀s,VRel I w ρ (getF F s) (tmps.getD s undef)) :
 ∀(rs:List ResultVar) {vs:List AV},aresults E F H rs=some vs→∃cs:List Value,(rs.mapM (resF tmps)).run E.P w = .ok cs w∧VRels I w ρ vs cs
 | [],vs,ha=>by simp only[aresults,Option.some.injEq]at ha;subst ha;exact⟨[],by simp,by simp[VRels]⟩
 |.tmp t::rs,vs,ha=>by
  unfold aresults at ha;split at ha
  case h_2=>cases ha
  rename_i vs' h1;cases ha;obtain⟨cs,h2,h3⟩:=aresults_ok ok r hF rs h1;refine⟨tmps.getD t undef::cs,?_,by simp only[VRels];exact⟨_,_,rfl,hF t,h3⟩⟩;simp only[List.mapM_cons,resF,Sem.run_bind,Sem.run_pure,Result.andThen_ok,h2]
 |.cell a t::rs,vs,ha=>by
  unfold aresults at ha;split at ha
  case h_2=>cases ha
  rename_i v vs' h0 h1;cases ha;obtain⟨cs,h2,h3⟩:=aresults_ok ok r hF rs h1;obtain⟨ad,d,h4,h5,h6⟩:=aload_run ok r h0 (hF a);refine⟨d::cs,?_,by simp only[VRels];exact⟨_,_,rfl,h6,h3⟩⟩;simp only[List.mapM_cons,resF,h4,asAddr,Sem.run_bind,Sem.run_pure,Result.andThen_ok,h2,h5]
theorem results_ok(ok:EnvOk E){fn:Func}{H:Heap}{F:Frm}{tmps:Array Value}(r:HRel E.G I K ρ (HeapF H) w)(hF:∀s,VRel I w ρ (getF F s) (tmps.getD s undef)){vs:List AV}(ha:aresults E F H fn.results.toList=some vs) :
 ∃c,(results fn tmps).run E.P w = .ok c w∧VRel I w ρ (oneOf vs) c:=by
 obtain⟨cs,h1,h2⟩:=aresults_ok ok r hF _ ha;have hrun:(results fn tmps).run E.P w = .ok (if h:cs.toArray.size=1 then cs.toArray[0]else .tuple cs.toArray) w:=by have:results fn tmps=(do let vs←fn.results.mapM (resF tmps);pure (if h:vs.size=1 then vs[0]else .tuple vs)):=rfl;rw[this,Array.mapM_eq_mapM_toList];simp only[bind_map_left,Sem.run_bind,h1,Result.andThen_ok,Sem.run_pure]
 refine⟨_,hrun,?_⟩
 match vs,cs,h2 with
 | [],cs,h2=>simp only[VRels]at h2;subst h2;simp only[oneOf,VRel];exact⟨#[],by simp,by simp[VRels]⟩
 | [v],cs,h2=>simp only[VRels]at h2;obtain⟨c,cs',rfl,h3,rfl⟩:=h2;simpa[oneOf]using h3
 |v::v'::vs,cs,h2=>have h2':=h2;simp only[VRels]at h2;obtain⟨c,_,rfl,_,c',cs',rfl,_,_⟩:=h2;simp only[oneOf,VRel];exact⟨_,by simp,h2'⟩
theorem getF_entry:∀(args:List AV) (i s:Nat),getF (entryF i args) s=if i≤s then(args[s-i]?).getD .junk else .junk
 | [],i,s=>by simp[entryF,getF]
 |v::vs,i,s=>by
  simp only[entryF,getF,nbeq,getF_entry vs (i+1) s];by_cases h:i=s
  ·subst h;simp
  ·rw[beq_eq_false_iff_ne.2 h];by_cases h1:i<s
   ·simp only[cond_false];rw[if_pos (by omega),if_pos (by omega),show s-i=(s-(i+1))+1 by omega,List.getElem?_cons_succ]
   ·simp only[cond_false];rw[if_neg (by omega),if_neg (by omega)]
theorem entry_frm{args:List AV}{cargs:List Value}{n:Nat}(hn:args.length≤n)(h:VRels I w ρ args cargs):FRel I w ρ n (entryF 0 args) (cargs.toArray++Array.replicate (n-cargs.toArray.size) undef):=by
 have hlen:=VRels.length h;refine⟨by simp;omega,λs=>?_⟩;rw[getF_entry];simp only[Nat.zero_le,if_true,Nat.sub_zero];cases hs:args[s]? with
 |none=>simp[VRel]
 |some v=>have hsl:=(List.getElem?_eq_some_iff.1 hs).1;obtain⟨c,hc,hv⟩:=VRels.get s h hs;simp only[Option.getD_some,Array.getD_eq_getD_getElem?];rw[Array.getElem?_append_left (by simp;omega)];simp only[List.getElem?_toArray,hc,Option.getD_some];exact hv
theorem frz_ok{m:Nat}{v v':AV}{c:Value}{H:Heap}(hfr:frzV m true (frzD (HeapF H) m 12) v=some v')(hm:m≤H.length)(r:HRel E.G I K ρ (HeapF H) w)(hn:NRel ρ H.length)(hv:VRel I w ρ v c) :
 ∃I' ρ',(∀c,I c→I' c)∧(∀b,b<m→ρ' b=ρ b)∧HRel E.G I' K ρ' (HeapF ((H.take m).map (Option.map (renObj (piBelow m))))) w∧NRel ρ' ((H.take m).map (Option.map (renObj (piBelow m)))).length∧m≤((H.take m).map (Option.map (renObj (piBelow m)))).length∧VRel I' w ρ' v' c:=by
 have hlen:((H.take m).map (Option.map (renObj (piBelow m)))).length=m:=by simp;omega
 obtain⟨h1,h2⟩:=frozen_ok (h':=HeapF ((H.take m).map (Option.map (renObj (piBelow m))))) r hfr hv (by
  intro b o' hb;simp only[HeapF,List.getElem?_map,List.getElem?_take]at hb;split at hb
  case isFalse=>simp at hb
  rename_i hlt;cases hx:H[b]? with
  |none=>rw[hx]at hb;simp at hb
  |some ob=>rw[hx]at hb;simp only[Option.map_some,Option.join_some]at hb;obtain⟨o,rfl,rfl⟩:=map_some_inv hb;exact⟨o,hlt,by simp[HeapF,hx],rfl⟩)
 refine⟨_,_,λ_ h=>.inl h,λb hb=>by simp[PMap.below,hb],h1,?_,by rw[hlen];exact Nat.le_refl _,h2⟩;intro b hb;rw[hlen]at hb;simp only[PMap.below];rw[if_neg (by omega)]
theorem melt_ok{m:Nat}{v v':AV}{c:Value}{H H':Heap}(hf:melt m v H=some (v',H'))(hm:m≤H.length)(r:HRel E.G I K ρ (HeapF H) w)(hn:NRel ρ H.length)(hv:VRel I w ρ v c) :
 ∃I' ρ',(∀c,I c→I' c)∧(∀b,b<m→ρ' b=ρ b)∧HRel E.G I' K ρ' (HeapF H') w∧NRel ρ' H'.length∧m≤H'.length∧VRel I' w ρ' v' c:=by
 unfold melt at hf;split at hf
 case h_2=>cases hf;exact⟨I,ρ,λ_ h=>h,λ_ _=>rfl,r,hn,hm,hv⟩
 case h_3=>cases hf;exact⟨I,ρ,λ_ h=>h,λ_ _=>rfl,r,hn,hm,hv⟩
 case h_4=>cases hf;exact⟨I,ρ,λ_ h=>h,λ_ _=>rfl,r,hn,hm,hv⟩
 case h_5=>cases hf;exact⟨I,ρ,λ_ h=>h,λ_ _=>rfl,r,hn,hm,hv⟩
 case h_6=>cases hf;exact⟨I,ρ,λ_ h=>h,λ_ _=>rfl,r,hn,hm,hv⟩
 case h_7=>cases hf;obtain⟨I',ρ',f⟩:=frz_ok (v:=.nilslice) (v':=.nilslice) rfl hm r hn hv;exact⟨I',ρ',f⟩
 case h_8=>cases hf
 rename_i b i o;rw[cond_eq_ite]at hf;split at hf
 case isFalse=>cases hf
 rename_i hmb;rw[Nat.ble_eq]at hmb;split at hf
 case h_2=>cases hf
 rename_i k rows hb;split at hf
 case h_2=>cases hf
 rename_i rows' hfr;cases hf;simp only[VRel]at hv;obtain⟨p,hp,rfl⟩:=hv;obtain⟨p',hp',hnI,hnK,hk,hk0,⟨arr,e,ha1,ha2,ha3⟩,hrows⟩:=r.live b _ hb;obtain rfl:p=p':=Option.some.inj (hp.symm.trans hp');have hwo:∀x,without (HeapF H) b x=if x=b then none else HeapF H x:=by
  intro x;unfold without;by_cases h:x=b
  ·subst h;rw[if_pos rfl,show Nat.beq x x=true from Nat.beq_refl x];rfl
  ·rw[if_neg h,show Nat.beq x b=false from by
    cases hq:Nat.beq x b with
    |false=>rfl
    |true=>exact absurd (Nat.eq_of_beq_eq_true hq) h]
   rfl
 have r0:HRel E.G I K ρ (without (HeapF H) b) w:=r.fewer (λx ob hx=>by
  rw[hwo]at hx;split at hx
  ·cases hx
  ·exact hx)
 have hlen:((H.take m).map (Option.map (renObj (piBelow m)))).length=m:=by simp;omega
 have hlow:∀x o',HeapF ((H.take m).map (Option.map (renObj (piBelow m)))) x=some o'→∃o,x<m∧without (HeapF H) b x=some o∧o'=renObj (piBelow m) o:=by
  intro x o' hx;simp only[HeapF,List.getElem?_map,List.getElem?_take]at hx;split at hx
  case isFalse=>simp at hx
  rename_i hlt;cases hxx:H[x]? with
  |none=>rw[hxx]at hx;simp at hx
  |some ob=>rw[hxx]at hx;simp only[Option.map_some,Option.join_some]at hx;obtain⟨o,rfl,rfl⟩:=map_some_inv hx;exact⟨o,hlt,by rw[hwo,if_neg (by omega)];simp[HeapF,hxx],rfl⟩
 have h1:=(frozen_ok (h':=HeapF ((H.take m).map (Option.map (renObj (piBelow m))))) r0 (v:=.junk) (v':=.junk) (c:=.nilFunc) (n:=12) (m:=m) rfl (by simp[VRel]) hlow).1;have hnF:¬Frozen I ρ (without (HeapF H) b) m p.blk:=by
  rintro(hc|⟨b',o',q,hb',ho',hq,he⟩)
  ·exact hnI hc
  ·rw[hwo]at ho';split at ho'
   ·cases ho'
   ·rename_i hne;exact hne (r.inj b' b q p (by simp[ho']) (by simp[hb]) hq hp he)
 have hI:∀c,I c→Frozen I ρ (without (HeapF H) b) m c:=λc hc=>.inl hc;have hr2:=frzT_at hI (frzD_reads r0 12) rows hfr hrows
 let ρ':PMap:=λx=>if x=m then some p else ρ.below m true x
 have hρ:∀x q,ρ.below m true x=some q→ρ' x=some q:=by
  intro x q hx;have hlt:x<m:=by
   simp only[PMap.below]at hx;split at hx
   ·rename_i h;exact h.2
   ·cases hx
  show(if x=m then some p else ρ.below m true x)=some q;rw[if_neg (by omega)];exact hx
 have hHm:∀x,HeapF ((H.take m).map (Option.map (renObj (piBelow m)))++[some (.row k rows')]) x=if x=m then some (.row k rows')else HeapF ((H.take m).map (Option.map (renObj (piBelow m)))) x:=by
  intro x;unfold HeapF;by_cases hx:x<m
  ·rw[List.getElem?_append_left (by rw[hlen];exact hx),if_neg (by omega)]
  ·rw[List.getElem?_append_right (by rw[hlen];omega),hlen];by_cases hxm:x=m
   ·subst hxm;rw[if_pos rfl,Nat.sub_self];rfl
   ·rw[if_neg hxm];have e1:([some (AObj.row k rows')]:Heap)[x-m]?=none:=List.getElem?_eq_none (by simp;omega);have e2:((H.take m).map (Option.map (renObj (piBelow m))))[x]?=none:=List.getElem?_eq_none (by rw[hlen];omega);rw[e1,e2]
 refine⟨Frozen I ρ (without (HeapF H) b) m,ρ',hI,?_,?_,?_,?_,?_⟩
 ·intro x hx;show(if x=m then some p else ρ.below m true x)=ρ x;rw[if_neg (by omega)];simp[PMap.below,hx]
 ·refine⟨?_,?_,?_,h1.imm,h1.kept,h1.apart,?_⟩
  ·intro x ob hx;rw[hHm]at hx;split at hx
   ·rename_i hxm;cases hx;refine⟨p,by show(if x=m then some p else _)=some p;rw[if_pos hxm],hnF,hnK,hk,hk0,⟨arr,e,ha1,ha2,by rw[frzT_length hfr];exact ha3⟩,?_⟩;exact VRows.mono (λ_ h=>h) (λ_ _=>rfl) rows' hρ rfl hr2
   ·obtain⟨q,hq,h3,h4,h5⟩:=h1.live x ob hx;exact⟨q,hρ x q hq,h3,h4,ORel.mono ob (λ_ h=>h) (λ_ _=>rfl) hρ rfl h5⟩
  ·intro x y q q' hx hy hqx hqy he;rw[hHm]at hx hy;have low:∀z q,z≠m→(HeapF ((H.take m).map (Option.map (renObj (piBelow m)))) z).isSome→ρ' z=some q→ρ.below m true z=some q∧z<m∧ρ z=some q∧(HeapF H z).isSome:=by
    intro z q hz hs hq;have hq':ρ.below m true z=some q:=by have:(if z=m then some p else ρ.below m true z)=some q:=hq;rw[if_neg hz]at this;exact this
    obtain⟨ob,ho⟩:=Option.isSome_iff_exists.1 hs;obtain⟨o1,hlt,ho1,_⟩:=hlow z ob ho;rw[hwo,if_neg (by omega)]at ho1;refine⟨hq',hlt,?_,by rw[ho1];rfl⟩;simp only[PMap.below]at hq';rw[if_pos ⟨trivial,hlt⟩]at hq';exact hq'
   by_cases hxm:x=m
   ·by_cases hym:y=m
    ·rw[hxm,hym]
    ·exfalso;rw[if_neg hym]at hy;obtain⟨_,h4,h5,h6⟩:=low y q' hym hy hqy;have hqp:q=p:=by
      have:(if x=m then some p else ρ.below m true x)=some q:=hqx;rw[if_pos hxm]at this;exact(Option.some.inj this).symm
     subst hqp;have:=r.inj b y q q' (by simp[hb]) h6 hp h5 he;omega
   ·rw[if_neg hxm]at hx;obtain⟨h3,h4,h5,h6⟩:=low x q hxm hx hqx;by_cases hym:y=m
    ·exfalso;have hqp:q'=p:=by
      have:(if y=m then some p else ρ.below m true y)=some q':=hqy;rw[if_pos hym]at this;exact(Option.some.inj this).symm
     subst hqp;have:=r.inj x b q q' h6 (by simp[hb]) h5 hp he;omega
    ·rw[if_neg hym]at hy;obtain⟨g3,_⟩:=low y q' hym hy hqy;exact h1.inj x y q q' hx hy h3 g3 he
  ·intro x q hx;have:(if x=m then some p else ρ.below m true x)=some q:=hx;split at this
   ·cases this;exact r.dom b p hp
   ·exact h1.dom x q this
  ·intro g cs hg;exact h1.glob g cs hg
 ·intro x hx;rw[List.length_append,hlen]at hx;simp only[List.length_cons,List.length_nil]at hx;show(if x=m then some p else ρ.below m true x)=none;rw[if_neg (by omega)];simp only[PMap.below];rw[if_neg (by omega)]
 ·rw[List.length_append,hlen];omega
 ·simp only[VRel];exact⟨p,by show(if m=m then some p else _)=some p;rw[if_pos rfl],rfl⟩
theorem finish_ok{thaw:Bool}{m:Nat}{v v':AV}{c:Value}{H H':Heap}(hf:finish thaw m v H=some (v',H'))(hm:m≤H.length)(r:HRel E.G I K ρ (HeapF H) w)(hn:NRel ρ H.length)(hv:VRel I w ρ v c) :
 ∃I' ρ',(∀c,I c→I' c)∧(∀b,b<m→ρ' b=ρ b)∧HRel E.G I' K ρ' (HeapF H') w∧NRel ρ' H'.length∧m≤H'.length∧VRel I' w ρ' v' c:=by
 unfold finish at hf;rw[cond_eq_ite]at hf;split at hf
 ·rw[cond_eq_ite]at hf;split at hf
  ·exact melt_ok hf hm r hn hv
  ·cases hf;exact⟨I,ρ,λ_ h=>h,λ_ _=>rfl,r,hn,hm,hv⟩
 ·split at hf
  case h_2=>cases hf;exact⟨I,ρ,λ_ h=>h,λ_ _=>rfl,r,hn,hm,hv⟩
  rename_i v1 hfr;cases hf;exact frz_ok hfr hm r hn hv
theorem endV_ok{g:FuncId}{m:Nat}{v v':AV}{c:Value}{H H':Heap}(hf:endV E g m v H=some (v',H'))(hm:m≤H.length)(r:HRel E.G I K ρ (HeapF H) w)(hn:NRel ρ H.length)(hv:VRel I w ρ v c) :
 ∃I' ρ',(∀c,I c→I' c)∧(∀b,b<m→ρ' b=ρ b)∧HRel E.G I' K ρ' (HeapF H') w∧NRel ρ' H'.length∧m≤H'.length∧VRel I' w ρ' v' c:=by
 unfold endV at hf;rw[cond_eq_ite]at hf;split at hf
 ·cases hf;exact⟨I,ρ,λ_ h=>h,λ_ _=>rfl,r,hn,hm,hv⟩
 ·exact finish_ok hf hm r hn hv
end
structure DrOk(E:Env):Prop where
 draws:∀f i,E.fn f=some i→drawsOk i.code=true
 rf:∀f i,E.fn f=some i→∀x∈rfs i.ntmps f 0 i.code,∃y,yOf (E.keep f x.1)=some y∧E.G.rnd y=some x.2
 rnd:RndOk E
 prim:∀f args H v H1,primH E f args H=some (v,H1)→FunOk E f (primH E f)
theorem DrOk.code{E:Env}(h:DrOk E){f:FuncId}{i:FInfo}(hi:E.fn f=some i):RFOk E f i.ntmps (E.keep f) none 0 i.code:=⟨λh=>by simp at h,h.rf f i hi⟩
def endFn(E:Env)(g:FuncId)(m:Nat)(rs:List ResultVar):AExit→Frm→Heap→Option (AV×Heap)
 |.exit _,_,_=>none
 |_,F,H=>match aresults E F H rs with
  |some vs=>endV E g m (oneOf vs) H
  |none=>none
theorem fun_of{E:Env}(ok:EnvOk E){g:FuncId}{i:FInfo}(hi:E.fn g=some i){args:List AV}{H H':Heap}{v:AV}(hle:Nat.ble args.length i.ntmps=true)
 {k:AExit→Frm→Heap→Option (AV×Heap)}(hkend:∀x F1 H1 r,k x F1 H1=some r→endFn E g H.length i.results x F1 H1=some r)
 (hcode:∀{e:Entry} {Q:Exit→Act→World→Prop},e.m=H.length→(∀x F1 H1 I ρ a w,Now E e i.ntmps F1 H1 I ρ a w→k x F1 H1=some (v,H')→Q x.conv a w)→
  ∀{I:Nat→Prop} {ρ:PMap} {a:Act} {w:World},Now E e i.ntmps (entryF 0 args) H I ρ a w→i.code.wpIn (wf none) 0 E.P Q a w)
 {I K:Nat→Prop}{ρ:PMap}{w:World}{cargs:List Value}(rel:HRel E.G I K ρ (HeapF H) w)(hn:NRel ρ H.length)(ha:VRels I w ρ args cargs) :
 XOf E g cargs w λen w'=>∃c I' ρ',en = .returned c∧Ret E I K ρ H.length w I' ρ' H' w'∧VRel I' w' ρ' v c:=by
 obtain⟨fn,h1,h2,h3,h4,_⟩:=ok.fn g i hi;rw[XOf_fn (fn_ne ok hi)];refine callsIn_wide.1 (callsIn_of_wp_marks (F:=Fence.wide) (n:=0) h1 h2 trivial ?_);rw[h3]
 let e:Entry:=⟨I,K,ρ,H.length,w,[]⟩
 have hnow:Now E e i.ntmps (entryF 0 args) H I ρ { tmps:=cargs.toArray++Array.replicate (i.ntmps-cargs.toArray.size) undef,defers:=[] } w:=⟨λ_ h=>h,λ_ _=>rfl,Ext.refl _ _ _,rel,hn,entry_frm (by simpa[Nat.ble_eq]using hle) ha,Nat.le_refl _,Marks.nil⟩
 refine hcode (e:=e) rfl ?_ hnow;intro x F1 H1 I1 ρ1 a w1 hn1 hk;have hk:=hkend _ _ _ _ hk;have fin:(match aresults E F1 H1 i.results with
  |some vs=>endV E g H.length (oneOf vs) H1
  |none=>none)=some (v,H')→LeavesInM Fence.wide 0 E.P fn a.tmps (λen w'=>∃c I' ρ',en = .returned c∧Ret E I K ρ H.length w I' ρ' H' w'∧VRel I' w' ρ' v c) a.defers .returning w1:=by
  intro hk;split at hk
  case h_2=>cases hk
  rename_i vs hvs;rw[←h4]at hvs;obtain⟨rs,q1,q2,q3⟩:=hn1.marks;rw[q1,show e.base=[]from rfl,List.append_nil];refine leaves_marks rs w1 q2 (λr hr=>(q3 r hr).2.2) ?_;obtain⟨s1,s2,s3,s4,s5⟩:=shutAll_rest rs w1;have rel2:HRel E.G I1 K ρ1 (HeapF H1) (shutAll rs w1):=HRel.shut hn1.rel (S:=(·∈rs)) (λc hc=>⟨(q3 c hc).1,_,(q3 c hc).2.2⟩) s1 s5;have hD:∀c,SameD w1 (shutAll rs w1) c:=by
   intro c;by_cases hc:c∈rs
   ·exact .inr ⟨_,(q3 c hc).2.2⟩
   ·exact .inl (s5 c hc)
  have frm2:∀s,VRel I1 (shutAll rs w1) ρ1 (getF F1 s) (a.tmps.getD s undef):=λs=>VRel.monoD (λc _=>hD c) _ (hn1.frm.2 s);have ext2:Ext I K w (shutAll rs w1):=by refine⟨by rw[s3];exact hn1.ext.os,by rw[s2];exact hn1.ext.tape,by rw[s4];exact hn1.ext.output,by rw[s1];exact hn1.ext.size,λc hc=>?_⟩;have hlt:c<w.heap.size:=hc.elim (rel.imm c) (rel.kept c);rw[s5 c (λhm=>by have h:w.heap.size≤c:=(q3 c hm).2.1;omega)];exact hn1.ext.keep c hc
  obtain⟨c,hr,hv⟩:=results_ok ok rel2 frm2 hvs;obtain⟨I2,ρ2,f1,f2,f3,f4,f5,f6⟩:=endV_ok hk hn1.low rel2 hn1.nrel hv;exact⟨c,hr,c,I2,ρ2,rfl,⟨λc hc=>f1 c (hn1.imm c hc),λb hb=>by rw[f2 b hb];exact hn1.map b hb,ext2,f3,f4,f5⟩,f6⟩
 cases x with
 |normal=>exact fin hk
 |exit id=>cases hk
 |ret=>exact fin hk
end Go.Ax
/- AxLive: which slots are read from a loop's head on. Definitions only: nothing rests on them. -/
namespace Go.Ax
def seekL:List (Nat×List Nat)→Nat→List Nat
 | [],_=>[]
 |(i,l)::r,j=>bif Nat.beq i j then l else seekL r j
end Go.Ax
/- AxInst: the tables of the evaluator, read off a program. -/
namespace Go.Ax
/-! ### tables that are searched -/
inductive Tab(α:Type) where
 |nil
 |node (l:Tab α)(k:Nat)(v:α)(r:Tab α)
def Tab.get{α:Type}:Tab α→Nat→Option α
 |.nil,_=>none
 |.node l k v r,i=>bif Nat.blt i k then l.get i else bif Nat.beq i k then some v else r.get i
def Tab.all{α:Type}(p:Nat→α→Bool):Tab α→Bool
 |.nil=>true
 |.node l k v r=>p k v&&l.all p&&r.all p
theorem Tab.all_get{α:Type}{p:Nat→α→Bool}:∀{t:Tab α} {i:Nat} {x:α},t.all p=true→t.get i=some x→p i x=true
 |.nil,i,x,_,h=>by simp[Tab.get]at h
 |.node l k v r,i,x,ha,h=>by
  simp only[Tab.all,Bool.and_eq_true]at ha;simp only[Tab.get,cond_eq_ite]at h;split at h
  ·exact Tab.all_get ha.1.2 h
  ·split at h
   ·rename_i hk;have:i=k:=by simpa using hk
    cases h;subst this;exact ha.1.1
   ·exact Tab.all_get ha.2 h
def Tab.toList{α:Type}:Tab α→List α
 |.nil=>[]
 |.node l _ v r=>l.toList++v::r.toList
def Tab.from{α:Type}:Nat→Tab α→Option Nat
 |lo,.nil=>some lo
 |lo,.node l k _ r=>match l.from lo with
  |some n=>bif Nat.beq n k then r.from (k+1)else none
  |none=>none
theorem Tab.from_len{α:Type}:∀{t:Tab α} {lo n:Nat},t.from lo=some n→n=lo+t.toList.length
 |.nil,lo,n,h=>by simp only[Tab.from,Option.some.injEq]at h;simp[Tab.toList,h]
 |.node l k v r,lo,n,h=>by
  unfold Tab.from at h;split at h
  case h_2=>cases h
  rename_i m hm;rw[cond_eq_ite]at h;split at h
  case isFalse=>cases h
  rename_i hk;have hk:m=k:=by simpa using hk
  have h1:=Tab.from_len hm;have h2:=Tab.from_len h;simp[Tab.toList];omega
theorem Tab.get_from{α:Type}:∀{t:Tab α} {lo n i:Nat} {x:α},t.from lo=some n→t.get i=some x→lo≤i∧t.toList[i-lo]?=some x
 |.nil,lo,n,i,x,_,h=>by simp[Tab.get]at h
 |.node l k v r,lo,n,i,x,hf,h=>by
  unfold Tab.from at hf;split at hf
  case h_2=>cases hf
  rename_i m hm;rw[cond_eq_ite]at hf;split at hf
  case isFalse=>cases hf
  rename_i hk;have hk:m=k:=by simpa using hk
  subst hk;have hl:=Tab.from_len hm;simp only[Tab.get,cond_eq_ite]at h;split at h
  ·rename_i hlt;obtain⟨h1,h2⟩:=Tab.get_from hm h;have hlt:i<m:=by simpa[Nat.blt_eq]using hlt
   refine⟨h1,?_⟩;simp only[Tab.toList];rw[List.getElem?_append_left (by omega)];exact h2
  ·split at h
   ·rename_i hk;have:i=m:=by simpa using hk
    cases h;subst this;refine⟨by omega,?_⟩;simp only[Tab.toList];rw[List.getElem?_append_right (by omega),show i-lo-l.toList.length=0 by omega];rfl
   ·obtain⟨h1,h2⟩:=Tab.get_from hf h;refine⟨by omega,?_⟩;simp only[Tab.toList];rw[List.getElem?_append_right (by omega),show i-lo-l.toList.length=(i-(m+1))+1 by omega,List.getElem?_cons_succ];exact h2
/-! ### the tables of a program -/
def undT(T:Tab TypeInfo)(t:TypeId):Option TypeDesc:=
 match T.get t with
 |some i=>match i.desc with
  |.named _ u=>match T.get u with
   |some j=>some j.desc
   |none=>none
  |d=>some d
 |none=>none
def zeroT(T:Tab TypeInfo)(t:TypeId):Option (List AV):=
 match T.get t with
 |some i=>match i.zero with
  |some z=>bif (undT T t).isSome&&Nat.beq z.cells.toList.length i.size then some (z.cells.toList.map constCell)else none
  |none=>none
 |none=>none
def eqokT(P:Program)(T:Tab TypeInfo)(t:TypeId):Bool:=
 !(P.eqGuardType P.depth t) && !(P.stoodInHeld t)&&(match T.get t with|some i=>i.comparable|none=>false) &&
  (match undT T t with|some (.struct fs)=>fs.toList.all (λf=>!(f.name == "_"))|_=>true)
def shapeT(T:Tab TypeInfo)(t:Nat)(i:TypeInfo):Bool:=
 match undT T t,i.zero with
 |some d,some (.agg _)=>aggDesc d
 |some d,some _=>!(aggDesc d)
 |_,_=>true
structure Laid where
 P:Program
 T:Tab TypeInfo
 F:Tab Func
 keep:Tab (List (Nat×List Nat))
 eqs:Tab Bool
 G:Nat→Option (List AV)
 thaw:Nat→Bool
 ro:Nat→Bool
 ext:Nat→Bool
 lend:Nat→Bool:=λ_=>false
 prim:Nat→List AV→Option (AV×Heap):=λ_ _=>none
 zf:Nat→Bool:=λ_=>false
 zn:Nat→Nat:=λ_=>0
 zj:Nat→Nat:=λ_=>0
 raw:Nat→Bool:=λ_=>false
 bT:Nat:=999999999
 primH:Nat→List AV→Heap→Option (AV×Heap):=λ_ _ _=>none
def Laid.rnd(L:Laid)(y:Nat):Option RInfo:=match L.F.get (y/100000)with
 |some fn=>match fn.body with
  |some c=>lookRF (y%100000) (rfs fn.ntmps (y/100000) 0 c)
  |none=>none
 |none=>none
def rfGood(keep:Nat→List Nat)(f:Nat)(l:List (Nat×RInfo)):Bool:=nodupB (l.map (·.1))&&l.all λx=>Nat.blt x.1 100000&&(match yOf (keep x.1)with|some y=>Nat.beq y (f*100000+x.1)|none=>false)&&drawsOk x.2.asg&&drawsOk x.2.body&&noRF x.2.asg&&noRF x.2.body
def Laid.env(L:Laid):Env:={
 P:=L.P
 und:=undT L.T
 sz:=λt=>match L.T.get t with|some i=>i.size|none=>0
 bytes:=λt=>match L.T.get t with|some i=>i.bytes|none=>0
 zero:=zeroT L.T
 eqok:=λt=>match L.eqs.get t with|some b=>b|none=>false
 G:=⟨L.G,L.rnd⟩
 bT:=L.bT
 primH:=L.primH
 fn:=λf=>match L.F.get f with
  |some fn=>match fn.body with
   |some c=>some ⟨c,fn.ntmps,fn.results.toList⟩
   |none=>none
  |none=>none
 keep:=λf=>match L.keep.get f with|some l=>seekL l|none=>λ_=>[]
 thaw:=L.thaw
 ro:=L.ro
 ext:=λf=>L.ext f||(L.lend f&&(match L.F.get f with|some fn=>fn.body.isSome|none=>false))
 prim:=L.prim
 zf:=L.zf
 zn:=L.zn
 zj:=L.zj
 raw:=L.raw }
structure LaidOk(L:Laid):Prop where
 types:∀i x,L.T.get i=some x→L.P.types[i]?=some x
 funcs:∀i x,L.F.get i=some x→L.P.funcs[i]?=some x
 shape:L.T.all (shapeT L.T)=true
 names:L.F.all (λ_ fn=>!(fn.name == "runtime.NumGoroutine"))=true
 eqs:L.eqs.all (λt b=>!b||eqokT L.P L.T t)=true
 ext:∀f,L.ext f=true→∃fn,L.P.funcs[f]?=some fn∧fn.body=none∧(fn.name == "runtime.NumGoroutine")=false∧Extern.findNext fn=none∧Extern.find fn=some Extern.BytealgIndexByte.indexByte
 mixed:L.P.follows .mixedOrders=true
 draws:L.F.all (λ_ fn=>match fn.body with|some c=>drawsOk c|none=>true)=true
 yid:(L.F.get yId).isNone=true
 rf:L.F.all (λf fn=>match fn.body with|some c=>rfGood (L.env.keep f) f (rfs fn.ntmps f 0 c)|none=>true)=true
theorem get_of_tab{α:Type}{t:Tab α}{l:List α}{n:Nat}(h1:t.from 0=some n)(h2:t.toList=l):∀i x,t.get i=some x→l.toArray[i]?=some x:=by intro i x h;obtain⟨_,h3⟩:=Tab.get_from h1 h;rw[h2]at h3;simpa using h3
section
variable {L:Laid}(ok:LaidOk L)
include ok
theorem info_of{t:Nat}{i:TypeInfo}(h:L.T.get t=some i):L.P.info? t=some i:=by have h1:=ok.types t i h;have h2:=(Array.getElem?_eq_some_iff.1 h1).1;show(if t<L.P.types.size then L.P.types[t]? else _)=_;rw[if_pos h2];exact h1
theorem und_of{t:Nat}{d:TypeDesc}(h:undT L.T t=some d):L.P.underlying t=some d∧∃i,L.T.get t=some i:=by
 unfold undT at h;split at h
 case h_2=>cases h
 rename_i i hi;refine⟨?_,i,hi⟩;have h1:=info_of ok hi;unfold Program.underlying;rw[h1];split at h
 ·rename_i nm u hd;split at h
  case h_2=>cases h
  rename_i j hj;cases h;have h2:=info_of ok hj;cases i;simp only at hd;subst hd;simp[h2]
 ·rename_i d' hne;cases h;cases i;rename_i dd _ _ _ _ _ _ _ _ _;cases dd<;>first|rfl|exact absurd rfl (hne _ _)
theorem LaidOk.envOk:EnvOk L.env:={
 und t d h:=by obtain⟨h1,i,hi⟩:=und_of ok h;exact⟨h1,i,info_of ok hi,by simp[Laid.env,hi],by simp[Laid.env,hi]⟩
 zero t cs h:=by
  have h:zeroT L.T t=some cs:=h;unfold zeroT at h;split at h
  case h_2=>cases h
  rename_i i hi;split at h
  case h_2=>cases h
  rename_i z hz;rw[cond_eq_ite]at h;split at h
  case isFalse=>cases h
  rename_i hc;simp only[Bool.and_eq_true,Nat.beq_eq]at hc;cases h;refine⟨Option.isSome_iff_exists.1 hc.1,i,z,info_of ok hi,hz,by simp[Laid.env,hi,hc.2],λI w=>constCells_ok _⟩
 zshape t d i z hd hi hz:=by
  obtain⟨_,j,hj⟩:=und_of ok hd;have hji:=info_of ok hj;have:i=j:=Option.some.inj (hi.symm.trans hji);subst this;have hs:=Tab.all_get ok.shape hj;have hd:undT L.T t=some d:=hd;simp only[shapeT,hd,hz]at hs;cases z with
  |agg a=>simp only at hs;exact⟨λ_=>⟨a,rfl⟩,λh=>by rw[hs]at h;cases h⟩
  |_=>simp only[Bool.not_eq_true']at hs;exact⟨λh=>(by rw[hs]at h;cases h),λ_=>rfl⟩
 eqok t h:=by
  have h:(match L.eqs.get t with|some b=>b|none=>false)=true:=h;split at h
  case h_2=>cases h
  rename_i b hb;subst h;have h:=Tab.all_get ok.eqs hb;simp only[Bool.not_true,Bool.false_or,eqokT,Bool.and_eq_true,Bool.not_eq_true']at h;obtain⟨⟨⟨h1,h2⟩,h3⟩,h4⟩:=h;refine⟨h1,h2,?_,?_⟩
  ·split at h3
   ·rename_i i hi;exact⟨i,info_of ok hi,h3⟩
   ·cases h3
  ·intro fs hfs f hf;have hfs:undT L.T t=some (.struct fs):=hfs;rw[hfs]at h4;simp only[List.all_eq_true,Bool.not_eq_true',beq_eq_false_iff_ne]at h4;exact h4 f hf
 fn f i h:=by
  have h:(match L.F.get f with
   |some fn=>match fn.body with
    |some c=>some (⟨c,fn.ntmps,fn.results.toList⟩:FInfo)
    |none=>none
   |none=>none)=some i:=h
  split at h
  case h_2=>cases h
  rename_i fn hfn;split at h
  case h_2=>cases h
  rename_i c hc;cases h;have hn:=Tab.all_get ok.names hfn;exact⟨fn,ok.funcs f fn hfn,hc,rfl,rfl,by simpa using hn⟩
 ext f h hfn:=by
  have h:(L.ext f||(L.lend f&&(match L.F.get f with|some fn=>fn.body.isSome|none=>false)))=true:=h;have hfn:(match L.F.get f with
   |some fn=>match fn.body with
    |some c=>some (⟨c,fn.ntmps,fn.results.toList⟩:FInfo)
    |none=>none
   |none=>none).isSome=false:=hfn
  rcases Bool.or_eq_true_iff.1 h with h|h
  ·exact ok.ext f h
  ·exfalso;have h:=(Bool.and_eq_true_iff.1 h).2;cases hx:L.F.get f with
   |none=>rw[hx]at h;cases h
   |some fn=>
    rw[hx]at h hfn;cases hb:fn.body with
    |none=>simp[hb]at h
    |some c=>simp[hb]at hfn
 mixed:=ok.mixed
 yid:=by
  have h:=ok.yid;show(match L.F.get yId with
   |some fn=>match fn.body with
    |some c=>some (⟨c,fn.ntmps,fn.results.toList⟩:FInfo)
    |none=>none
   |none=>none)=none
  cases hx:L.F.get yId with
  |none=>rfl
  |some fn=>rw[hx]at h;cases h}
omit ok in
theorem Laid.fn_inv{f:Nat}{i:FInfo}(h:L.env.fn f=some i):∃fn c,L.F.get f=some fn∧fn.body=some c∧i=⟨c,fn.ntmps,fn.results.toList⟩:=by
 have h:(match L.F.get f with
  |some fn=>match fn.body with
   |some c=>some (⟨c,fn.ntmps,fn.results.toList⟩:FInfo)
   |none=>none
  |none=>none)=some i:=h
 split at h
 case h_2=>cases h
 rename_i fn hfn;split at h
 case h_2=>cases h
 rename_i c hc;cases h;exact⟨fn,c,hfn,hc,rfl⟩
omit ok in
theorem lookRF_mem{cur:Nat}{ri:RInfo}:∀{l:List (Nat×RInfo)},lookRF cur l=some ri→(cur,ri)∈l
 | [],h=>by simp[lookRF]at h
 |(c,r)::l,h=>by
  simp only[lookRF,cond_eq_ite]at h;split at h
  ·rename_i hc;have hc:=Nat.eq_of_beq_eq_true hc;cases h;subst hc;simp
  ·exact List.mem_cons_of_mem _ (lookRF_mem h)
omit ok in
theorem lookRF_of{x:Nat×RInfo}:∀{l:List (Nat×RInfo)},(l.map (·.1)).Nodup→x∈l→lookRF x.1 l=some x.2
 | [],_,h=>by cases h
 |(c,r)::l,hn,h=>by
  simp only[List.map_cons]at hn;have hn:=List.nodup_cons.1 hn;simp only[lookRF,cond_eq_ite];rcases List.mem_cons.1 h with rfl|h
  ·simp
  ·have hne:c≠x.1:=λe=>hn.1 (by rw[e];exact List.mem_map_of_mem h);rw[if_neg (by rw[Nat.beq_eq];exact hne)];exact lookRF_of hn.2 h
theorem LaidOk.good{f:Nat}{fn:Func}{c:Code}(hfn:L.F.get f=some fn)(hc:fn.body=some c):rfGood (L.env.keep f) f (rfs fn.ntmps f 0 c)=true:=by have:=Tab.all_get ok.rf hfn;simpa[hc]using this
def PrimOk(L:Laid):Prop:=∀f args H v H1,primH L.env f args H=some (v,H1)→FunOk L.env f (primH L.env f)
theorem LaidOk.drawnP(hP:PrimOk L):DrOk L.env:={
 prim:=hP
 draws f i h:=by obtain⟨fn,c,hfn,hc,rfl⟩:=Laid.fn_inv h;have:=Tab.all_get ok.draws hfn;simpa[hc]using this
 rf f i h x hx:=by
  obtain⟨fn,c,hfn,hc,rfl⟩:=Laid.fn_inv h;have hg:=ok.good hfn hc;simp only[rfGood,Bool.and_eq_true,List.all_eq_true]at hg;have hx1:=hg.2 x hx;obtain⟨⟨⟨⟨⟨h1,h2⟩,_⟩,_⟩,_⟩,_⟩:=hx1;split at h2
  case h_2=>cases h2
  rename_i y hy;have h2:=Nat.eq_of_beq_eq_true h2;have h1:x.1<100000:=by simpa[Nat.blt_eq]using h1
  refine⟨y,hy,?_⟩;show L.rnd y=some x.2;have e1:y/100000=f:=by omega
  have e2:y%100000=x.1:=by omega
  unfold Laid.rnd;rw[e1,e2,hfn];simp only[hc];exact lookRF_of (nodup_of hg.1) hx
 rnd y ri h:=by
  have h:L.rnd y=some ri:=h;unfold Laid.rnd at h;split at h
  case h_2=>cases h
  rename_i fn hfn;split at h
  case h_2=>cases h
  rename_i c hc;have hg:=ok.good hfn hc;simp only[rfGood,Bool.and_eq_true,List.all_eq_true]at hg;have hx1:=hg.2 _ (lookRF_mem h);exact⟨hx1.1.1.1.2,hx1.1.1.2,hx1.1.2,hx1.2⟩}
theorem LaidOk.drawn(hP:∀f args,L.prim f args=none:=by intros;rfl):DrOk L.env:=ok.drawnP λf args H v H1 h=>by rw[primH_none (hP f args)]at h;cases h
end
end Go.Ax
/- AxZ0: a function whose own memory is frozen behind each of its outermost statements: the run of its body. -/
namespace Go.Ax
def aevZ(E:Env)(m0 N:Nat)(keep:Nat→List Nat)(call:FuncId→List AV→Heap→Option (AV×Heap))(lf:Nat){R:Type}:Nat→Code→Frm→Heap→(AExit→Frm→Heap→Option R)→Option R
 |cur,.seq a b,F,H,k=>aevZ E m0 N keep call lf cur a F H λe F' H'=>match e with
  |.normal=>aevZ E m0 N keep call lf cur b (frzF m0 H' F') (frzH m0 H') k
  |e=>k e F' H'
 |cur,c,F,H,k=>aevC E m0 N keep call lf cur c F H k
theorem codeZ_ok{E:Env}(ok:EnvOk E){call:FuncId→List AV→Heap→Option (AV×Heap)}(hcall:CallsOk E call){fid:Nat}{e:Entry}{N lf:Nat}{keep:Nat→List Nat}{R:Type}:∀(c:Code),drawsOk c=true→
 ∀{cur:Nat},RFOk E fid N keep none cur c→∀{k:AExit→Frm→Heap→Option R} {r:R} {Q:Exit→Act→World→Prop},(∀x F H I ρ a w,Now E e N F H I ρ a w→k x F H=some r→Q x.conv a w)→
 ∀{F:Frm} {H:Heap} {I:Nat→Prop} {ρ:PMap} {a:Act} {w:World},Now E e N F H I ρ a w→aevZ E e.m N keep call lf cur c F H k=some r→c.wpIn (wf none) 0 E.P Q a w:=by
 intro c
 induction c with
 |seq x y ihx ihy=>
  intro hst cur hrf k r Q hQ F H I ρ a w hnow hrun;have hst:drawsAt false (.seq x y)=true:=hst;simp only[drawsAt,Bool.and_eq_true]at hst;refine wpIn_seq (ihx hst.1 hrf.seq1 ?_ hnow hrun);intro x F H I ρ a w hn hk;cases x with
  |normal=>obtain⟨I',ρ',h'⟩:=hn.frz 0;exact ihy hst.2 hrf.seq2 hQ h' hk
  |exit id=>exact hQ (.exit id) F H I ρ a w hn hk
  |ret=>exact hQ .ret F H I ρ a w hn hk
 |_=>intro hst cur hrf k r Q hQ F H I ρ a w hnow hrun;exact code_ok (ro:=none) ok hcall _ hst hrf hQ hnow hrun
def aevY(E:Env)(m0 N:Nat)(keep:Nat→List Nat)(call:FuncId→List AV→Heap→Option (AV×Heap))(lf j:Nat){R:Type}:Nat→Nat→Code→Frm→Heap→(AExit→Frm→Heap→Option R)→Option R
 |0,cur,c,F,H,k=>aevC E m0 N keep call lf cur c F H k
 |n+1,cur,c,F,H,k=>match c with
  |.seq a b=>aevC E m0 N keep call lf cur a F H λe F' H'=>match e with
   |.normal=>aevY E m0 N keep call lf j n cur b (frzF (m0+j) H' F') (frzH (m0+j) H') k
   |e=>k e F' H'
  |c=>aevC E m0 N keep call lf cur c F H k
theorem codeY_ok{E:Env}(ok:EnvOk E){call:FuncId→List AV→Heap→Option (AV×Heap)}(hcall:CallsOk E call){fid:Nat}{e:Entry}{N lf j:Nat}{keep:Nat→List Nat}{R:Type}:∀(n:Nat) (c:Code),drawsAt false c=true→
 ∀{cur:Nat},RFOk E fid N keep none cur c→∀{k:AExit→Frm→Heap→Option R} {r:R} {Q:Exit→Act→World→Prop},(∀x F H I ρ a w,Now E e N F H I ρ a w→k x F H=some r→Q x.conv a w)→
 ∀{F:Frm} {H:Heap} {I:Nat→Prop} {ρ:PMap} {a:Act} {w:World},Now E e N F H I ρ a w→aevY E e.m N keep call lf j n cur c F H k=some r→c.wpIn (wf none) 0 E.P Q a w:=by
 intro n
 induction n with
 |zero=>intro c hst cur hrf k r Q hQ F H I ρ a w hnow hrun;exact code_ok (ro:=none) ok hcall c hst hrf hQ hnow hrun
 |succ n ih=>
  intro c;cases c with
  |seq x y=>
   intro hst cur hrf k r Q hQ F H I ρ a w hnow hrun;have hst:drawsAt false (.seq x y)=true:=hst;simp only[drawsAt,Bool.and_eq_true]at hst;refine wpIn_seq (code_ok (ro:=none) ok hcall x hst.1 hrf.seq1 ?_ hnow hrun);intro x F H I ρ a w hn hk;cases x with
   |normal=>obtain⟨I',ρ',h'⟩:=hn.frz j;exact ih _ hst.2 hrf.seq2 hQ h' hk
   |exit id=>exact hQ (.exit id) F H I ρ a w hn hk
   |ret=>exact hQ .ret F H I ρ a w hn hk
  |_=>intro hst cur hrf k r Q hQ F H I ρ a w hnow hrun;exact code_ok (ro:=none) (lf:=lf) ok hcall _ hst hrf hQ hnow hrun
def aevX(E:Env)(z:Bool)(zn zj:Nat)(m0 N:Nat)(keep:Nat→List Nat)(call:FuncId→List AV→Heap→Option (AV×Heap))(lf:Nat){R:Type}(cur:Nat)(c:Code)(F:Frm)(H:Heap)(k:AExit→Frm→Heap→Option R):Option R:=bif z then(match zn with|0=>aevZ E m0 N keep call lf cur c F H k|n+1=>aevY E m0 N keep call lf zj n cur c F H k)else aevC E m0 N keep call lf cur c F H k
end Go.Ax
/- AxMemo: calls whose answer is known already. -/
namespace Go.Ax
def eqNs:List UInt8→List UInt8→Bool
 | [],[]=>true
 |a::r,b::s=>Nat.beq a.toNat b.toNat&&eqNs r s
 |_,_=>false
theorem eqNs_ok:∀{a b:List UInt8},eqNs a b=true→a=b
 | [],[],_=>rfl
 | [],_::_,h=>by simp[eqNs]at h
 |_::_,[],h=>by simp[eqNs]at h
 |a::r,b::s,h=>by simp only[eqNs,Bool.and_eq_true,Nat.beq_eq]at h;rw[eqNs_ok h.2,UInt8.toNat_inj.1 h.1]
def eqO:Option Nat→Option Nat→Bool
 |none,none=>true
 |some a,some b=>Nat.beq a b
 |_,_=>false
theorem eqO_ok{a b:Option Nat}(h:eqO a b=true):a=b:=by cases a<;>cases b<;>simp_all[eqO]
def eqI:Int→Int→Bool
 |.ofNat a,.ofNat b=>Nat.beq a b
 |.negSucc a,.negSucc b=>Nat.beq a b
 |_,_=>false
theorem eqI_ok{a b:Int}(h:eqI a b=true):a=b:=by cases a<;>cases b<;>simp_all[eqI]
mutual
def eqV:AV→AV→Bool
 |.bool a,.bool b=>match a,b with|true,true=>true|false,false=>true|_,_=>false
 |.int k n,.int k' n'=>decide (k=k')&&eqI n n'
 |.str s,.str t=>eqNs s t
 |.nilptr,.nilptr=>true
 |.nilslice,.nilslice=>true
 |.nilmap,.nilmap=>true
 |.nilfunc,.nilfunc=>true
 |.nilifc,.nilifc=>true
 |.iptr cs,.iptr ds=>eqL cs ds
 |.islice r c,.islice r' c'=>eqO c c'&&eqR r r'
 |.agg cs,.agg ds=>eqL cs ds
 |.tuple cs,.tuple ds=>eqL cs ds
 |.iset a,.iset b=>decide (a=b)
 |_,_=>false
def eqL:List AV→List AV→Bool
 | [],[]=>true
 |a::r,b::s=>eqV a b&&eqL r s
 |_,_=>false
def eqR:List (List AV)→List (List AV)→Bool
 | [],[]=>true
 |a::r,b::s=>eqL a b&&eqR r s
 |_,_=>false
end
mutual
theorem eqV_ok:∀(a b:AV),eqV a b=true→a=b
 |.bool a,b,h=>by cases b<;>simp only[eqV]at h<;>first|(cases h;done)|(split at h<;>first|rfl|cases h)
 |.int k n,b,h=>by
  cases b<;>simp only[eqV]at h<;>first|(cases h;done)|skip
  simp only[Bool.and_eq_true,decide_eq_true_eq]at h;rw[h.1,eqI_ok h.2]
 |.str s,b,h=>by cases b<;>simp only[eqV]at h<;>first|(cases h;done)|rw[eqNs_ok h]
 |.nilptr,b,h=>by cases b<;>simp only[eqV]at h<;>first|rfl|(cases h;done)
 |.nilslice,b,h=>by cases b<;>simp only[eqV]at h<;>first|rfl|(cases h;done)
 |.nilmap,b,h=>by cases b<;>simp only[eqV]at h<;>first|rfl|(cases h;done)
 |.nilfunc,b,h=>by cases b<;>simp only[eqV]at h<;>first|rfl|(cases h;done)
 |.nilifc,b,h=>by cases b<;>simp only[eqV]at h<;>first|rfl|(cases h;done)
 |.iptr cs,b,h=>by cases b<;>simp only[eqV]at h<;>first|(cases h;done)|rw[eqL_ok _ _ h]
 |.islice r c,b,h=>by
  cases b<;>simp only[eqV]at h<;>first|(cases h;done)|skip
  simp only[Bool.and_eq_true]at h;rw[eqO_ok h.1,eqR_ok _ _ h.2]
 |.agg cs,b,h=>by cases b<;>simp only[eqV]at h<;>first|(cases h;done)|rw[eqL_ok _ _ h]
 |.tuple cs,b,h=>by cases b<;>simp only[eqV]at h<;>first|(cases h;done)|rw[eqL_ok _ _ h]
 |.junk,b,h=>by simp[eqV]at h
 |.ptr ..,b,h=>by simp[eqV]at h
 |.slice ..,b,h=>by simp[eqV]at h
 |.map ..,b,h=>by simp[eqV]at h
 |.yfn ..,b,h=>by simp[eqV]at h
 |.imap ..,b,h=>by simp[eqV]at h
 |.iset a,b,h=>by cases b<;>simp only[eqV]at h<;>first|(cases h;done)|rw[of_decide_eq_true h]
 |.func ..,b,h=>by simp[eqV]at h
 |.iface ..,b,h=>by simp[eqV]at h
theorem eqL_ok:∀(a b:List AV),eqL a b=true→a=b
 | [],b,h=>by cases b<;>simp[eqL]at h<;>rfl
 |x::r,b,h=>by
  cases b<;>simp only[eqL]at h
  ·cases h
  ·simp only[Bool.and_eq_true]at h;rw[eqV_ok _ _ h.1,eqL_ok _ _ h.2]
theorem eqR_ok:∀(a b:List (List AV)),eqR a b=true→a=b
 | [],b,h=>by cases b<;>simp[eqR]at h<;>rfl
 |x::r,b,h=>by
  cases b<;>simp only[eqR]at h
  ·cases h
  ·simp only[Bool.and_eq_true]at h;rw[eqL_ok _ _ h.1,eqR_ok _ _ h.2]
end
structure Fact where
 g:Nat
 args:List AV
 v:AV
def FactOk(E:Env)(x:Fact):Prop:=
 ∀(I K:Nat→Prop) (ρ:PMap) (w:World) (cargs:List Value),HRel E.G I K ρ (HeapF []) w→NRel ρ 0→VRels I w ρ x.args cargs→
  XOf E x.g cargs w λen w'=>∃c I' ρ',en = .returned c∧Ret E I K ρ 0 w I' ρ' [] w'∧VRel I' w' ρ' x.v c
def seek:List Fact→FuncId→List AV→Option AV
 | [],_,_=>none
 |x::r,g,args=>bif Nat.beq x.g g&&eqL x.args args then some x.v else seek r g args
def memo(M:List Fact)(call:FuncId→List AV→Heap→Option (AV×Heap))(g:FuncId)(args:List AV)(H:Heap):Option (AV×Heap):=
 match H with
 | []=>match seek M g args with
  |some v=>some (v,[])
  |none=>call g args []
 |b::r=>call g args (b::r)
theorem seek_ok{E:Env}{g:FuncId}{args:List AV}{v:AV}:∀{M:List Fact},(∀x∈M,FactOk E x)→seek M g args=some v→FactOk E ⟨g,args,v⟩
 | [],_,h=>by simp[seek]at h
 |x::r,hM,h=>by
  simp only[seek,cond_eq_ite]at h;split at h
  ·rename_i hc;simp only[Bool.and_eq_true,Nat.beq_eq]at hc;cases h;have:=hM x (by simp);obtain⟨g',a',v'⟩:=x;simp only at hc this;have h1:=hc.1;have h2:=eqL_ok _ _ hc.2;subst h1;subst h2;exact this
  ·exact seek_ok (λx hx=>hM x (by simp[hx])) h
theorem memo_ok{E:Env}{M:List Fact}(hM:∀x∈M,FactOk E x){call:FuncId→List AV→Heap→Option (AV×Heap)}(hcall:CallsOk E call):CallsOk E (memo M call):=by
 intro g args H v H' hrun;unfold memo at hrun;split at hrun
 ·split at hrun
  ·rename_i v' hs;cases hrun;exact seek_ok hM hs
  ·exact hcall g args [] v H' hrun
 ·exact hcall g args _ v H' hrun
def runFn(E:Env)(call:FuncId→List AV→Heap→Option (AV×Heap))(lf:Nat)(f:FuncId)(args:List AV)(H:Heap):Option (AV×Heap):=
 match primH E f args H with
 |some r=>some r
 |none=>match E.fn f with
 |none=>bif Nat.beq f yId then runRound E call lf args H else none
 |some i=>bif Nat.ble args.length i.ntmps then
  aevX E (E.zf f) (E.zn f) (E.zj f) H.length i.ntmps (E.keep f) call lf 0 i.code (entryF 0 args) H λe F' H'=>match e with
   |.exit _=>none
   |_=>match aresults E F' H' i.results with
    |some vs=>endV E f H.length (oneOf vs) H'
    |none=>none
  else none
def mcall(E:Env)(M:List Fact):Nat→FuncId→List AV→Heap→Option (AV×Heap)
 |0,_,_,_=>none
 |n+1,f,args,H=>memo M (runFn E (mcall E M n) (n+1)) f args H
theorem runFn_ok{E:Env}(ok:EnvOk E)(hdr:DrOk E){call:FuncId→List AV→Heap→Option (AV×Heap)}(hcall:CallsOk E call)(lf:Nat):CallsOk E (runFn E call lf):=by
 intro g args H v H' hrun I K ρ w cargs rel hn ha;unfold runFn at hrun;split at hrun
 ·rename_i r hp;cases hrun;exact hdr.prim g args H v H' hp args H v H' hp I K ρ w cargs rel hn ha
 split at hrun
 ·rw[cond_eq_ite]at hrun;split at hrun
  case isFalse=>cases hrun
  rename_i hg;have hg:=Nat.eq_of_beq_eq_true hg;subst hg;exact runRound_ok ok hdr.rnd hcall lf args H v H' hrun I K ρ w cargs rel hn ha
 rename_i i hi;rw[cond_eq_ite]at hrun;split at hrun
 case isFalse=>cases hrun
 rename_i hle;refine fun_of ok hi hle (k:=λe F' H'=>match e with
  |.exit _=>none
  |_=>match aresults E F' H' i.results with
   |some vs=>endV E g H.length (oneOf vs) H'
   |none=>none) (λx F1 H1 r h=>by cases x<;>exact h) ?_ rel hn ha
 intro e Q he hQ I ρ a w hnow;unfold aevX at hrun;cases hz:E.zf g with
 |true=>
  rw[hz,cond_true]at hrun;cases hzn:E.zn g with
  |zero=>rw[hzn]at hrun;refine codeZ_ok (e:=e) (lf:=lf) ok hcall i.code (hdr.draws g i hi) (hdr.code hi) hQ hnow ?_;rw[he];exact hrun
  |succ n=>rw[hzn]at hrun;refine codeY_ok (e:=e) (lf:=lf) (j:=E.zj g) ok hcall n i.code (hdr.draws g i hi) (hdr.code hi) hQ hnow ?_;rw[he];exact hrun
 |false=>rw[hz,cond_false]at hrun;refine code_ok (e:=e) (ro:=none) (lf:=lf) ok hcall i.code (hdr.draws g i hi) (hdr.code hi) hQ hnow ?_;rw[he];exact hrun
theorem mcall_ok{E:Env}(ok:EnvOk E)(hdr:DrOk E){M:List Fact}(hM:∀x∈M,FactOk E x):∀n,CallsOk E (mcall E M n)
 |0=>by intro g args H v H' hrun;simp[mcall]at hrun
 |n+1=>memo_ok hM (runFn_ok ok hdr (mcall_ok ok hdr hM n) (n+1))
theorem fact_of{E:Env}(ok:EnvOk E)(hdr:DrOk E){M:List Fact}(hM:∀x∈M,FactOk E x)(n:Nat){g:Nat}{args:List AV}{v:AV}(h:runFn E (mcall E M n) n g args []=some (v,[])) :
 FactOk E ⟨g,args,v⟩:=runFn_ok ok hdr (mcall_ok ok hdr hM n) n g args [] v [] h
theorem facts_nil{E:Env}:∀x∈([]:List Fact),FactOk E x:=by simp
theorem facts_cons{E:Env}{x:Fact}{M:List Fact}(hx:FactOk E x)(hM:∀x∈M,FactOk E x):∀y∈x::M,FactOk E y:=by
 intro y hy;simp only[List.mem_cons]at hy;rcases hy with rfl|hy
 ·exact hx
 ·exact hM y hy
end Go.Ax
