/- AxSame: values and objects, compared. -/
import Derived.Test.YtmiegcjnimlbmaaGreatDoorAxA
import Derived.Lib.Bytealg
import Derived.RangeFuncRecord
import Derived.Scope
import Derived.LoopNIn
import Derived.Orders
import Derived.OrdersIn
set_option linter.unusedSimpArgs false
set_option linter.unusedVariables false
namespace Go.Ax
mutual
def a8b:AV→AV→Bool
 |.junk,.junk=>true
 |.bool a,.bool b=>a==b
 |.int k a,.int k' b=>decide (k=k')&&decide (a=b)
 |.str a,.str b=>decide (a=b)
 |.nilptr,.nilptr=>true
 |.nilslice,.nilslice=>true
 |.nilmap,.nilmap=>true
 |.nilfunc,.nilfunc=>true
 |.nilifc,.nilifc=>true
 |.ptr a b c,.ptr d e f=>decide (a=d)&&(decide (b=e)&&decide (c=f))
 |.iptr a,.iptr b=>a70 a b
 |.slice a b c d,.slice e f g h=>decide (a=e)&&(decide (b=f)&&(decide (c=g)&&decide (d=h)))
 |.islice r c,.islice s d=>b5x r s&&decide (c=d)
 |.map a,.map b=>decide (a=b)
 |.imap a b c d,.imap e f g h=>a70 a e&&(a70 b f&&(decide (c=g)&&decide (d=h)))
 |.iset a,.iset b=>decide (a=b)
 |.yfn a,.yfn b=>decide (a=b)
 |.func f a b,.func g c d=>decide (f=g)&&(a70 a c&&a70 b d)
 |.iface t x,.iface u y=>decide (t=u)&&a8b x y
 |.agg a,.agg b=>a70 a b
 |.tuple a,.tuple b=>a70 a b
 |_,_=>false
def a70:List AV→List AV→Bool
 | [],[]=>true
 |x::xs,y::ys=>a8b x y&&a70 xs ys
 |_,_=>false
def b5x:List (List AV)→List (List AV)→Bool
 | [],[]=>true
 |x::xs,y::ys=>a70 x y&&b5x xs ys
 |_,_=>false
end
mutual
theorem b5v:∀(a b:AV),a8b a b=true→a=b
 |a,b,h=>by
  cases a<;>cases b<;>simp only[a8b,c11,e6l,e9d,e7w]at h
  case junk.junk=>rfl
  case bool.bool=>rw[h]
  case int.int=>rw[h.1,h.2]
  case str.str=>rw[h]
  case nilptr.nilptr=>rfl
  case nilslice.nilslice=>rfl
  case nilmap.nilmap=>rfl
  case nilfunc.nilfunc=>rfl
  case nilifc.nilifc=>rfl
  case ptr.ptr=>rw[h.1,h.2.1,h.2.2]
  case iptr.iptr=>rw[a3o _ _ h]
  case slice.slice=>rw[h.1,h.2.1,h.2.2.1,h.2.2.2]
  case islice.islice=>rw[b5w _ _ h.1,h.2]
  case map.map=>rw[h]
  case imap.imap=>rw[a3o _ _ h.1,a3o _ _ h.2.1,h.2.2.1,h.2.2.2]
  case iset.iset=>rw[h]
  case yfn.yfn=>rw[h]
  case func.func=>rw[h.1,a3o _ _ h.2.1,a3o _ _ h.2.2]
  case iface.iface=>rw[h.1,b5v _ _ h.2]
  case agg.agg=>rw[a3o _ _ h]
  case tuple.tuple=>rw[a3o _ _ h]
theorem a3o:∀(a b:List AV),a70 a b=true→a=b
 | [],[],_=>rfl
 |x::xs,y::ys,h=>by simp only[a70,c11]at h;rw[b5v x y h.1,a3o xs ys h.2]
 | [],_::_,h=>by simp[a70]at h
 |_::_,[],h=>by simp[a70]at h
theorem b5w:∀(a b:List (List AV)),b5x a b=true→a=b
 | [],[],_=>rfl
 |x::xs,y::ys,h=>by simp only[b5x,c11]at h;rw[a3o x y h.1,b5w xs ys h.2]
 | [],_::_,h=>by simp[b5x]at h
 |_::_,[],h=>by simp[b5x]at h
end
mutual
theorem a9n:∀(a:AV),a8b a a=true
 |.junk|.bool _|.int _ _|.str _|.nilptr|.nilslice|.nilmap|.nilfunc|.nilifc|.ptr _ _ _|.slice _ _ _ _|.map _|.yfn _=>by simp[a8b]
 |.iptr a=>by simp only[a8b];exact a2i a
 |.islice r c=>by simp only[a8b,a9o r,e9y,e8h]
 |.imap a b c d=>by simp only[a8b,a2i a,a2i b,e9y,e8h]
 |.iset a=>by simp only[a8b,e9y]
 |.func f a b=>by simp only[a8b,a2i a,a2i b,e9y,e8h]
 |.iface t x=>by simp only[a8b,a9n x,e9y,e8h]
 |.agg a=>by simp only[a8b];exact a2i a
 |.tuple a=>by simp only[a8b];exact a2i a
theorem a2i:∀(a:List AV),a70 a a=true
 | []=>rfl
 |x::xs=>by simp only[a70,a9n x,a2i xs,e8h]
theorem a9o:∀(a:List (List AV)),b5x a a=true
 | []=>rfl
 |x::xs=>by simp only[b5x,a2i x,a9o xs,e8h]
end
def b5z:List (Nat×AV)→List (Nat×AV)→Bool
 | [],[]=>true
 |(s,v)::F,(t,u)::G=>Nat.beq s t&&(a8b v u&&b5z F G)
 |_,_=>false
theorem b5y:∀{F G:List (Nat×AV)},b5z F G=true→F=G
 | [],[],_=>rfl
 |(s,v)::F,(t,u)::G,h=>by simp only[b5z,c11,f08]at h;rw[h.1,b5v _ _ h.2.1,b5y h.2.2]
 | [],_::_,h=>by simp[b5z]at h
 |_::_,[],h=>by simp[b5z]at h
theorem b48:∀F:List (Nat×AV),b5z F F=true
 | []=>rfl
 |(s,v)::F=>by simp only[b5z,a9n,b48 F,Nat.beq_refl,e8h]
def b0v:Option AObj→Option AObj→Bool
 |none,none=>true
 |some (.row k r),some (.row l s)=>decide (k=l)&&b5x r s
 |some (.map a b c d),some (.map e f g h)=>a70 a e&&(a70 b f&&(decide (c=g)&&decide (d=h)))
 |some (.siter s p),some (.siter t q)=>decide (s=t)&&decide (p=q)
 |some (.uset a),some (.uset b)=>decide (a=b)
 |some (.miter a b c),some (.miter d e f)=>decide (a=d)&&(decide (b=e)&&decide (c=f))
 |some (.yloop a b c),some (.yloop d e f)=>decide (a=d)&&(b5z b e&&decide (c=f))
 |_,_=>false
theorem c1h(a b:Option AObj)(h:b0v a b=true):a=b:=by
 unfold b0v at h;split at h
 ·rfl
 ·simp only[c11,e6l]at h;rw[h.1,b5w _ _ h.2]
 ·simp only[c11,e6l]at h;rw[a3o _ _ h.1,a3o _ _ h.2.1,h.2.2.1,h.2.2.2]
 ·simp only[c11,e6l]at h;rw[h.1,h.2]
 ·simp only[e6l]at h;rw[h]
 ·simp only[c11,e6l]at h;rw[h.1,h.2.1,h.2.2]
 ·simp only[c11,e6l]at h;rw[h.1,b5y h.2.1,h.2.2]
 ·cases h
@[go_sem] theorem d8a(a:Option AObj):b0v a a=true:=by
 cases a with
 |none=>rfl
 |some o=>cases o with
  |row k r=>simp only[b0v,a9o,e9y,e8h]
  |map a b c d=>simp only[b0v,a2i,e9y,e8h]
  |siter s p=>simp only[b0v,e9y,e8h]
  |uset a=>simp only[b0v,e9y]
  |miter a b c=>simp only[b0v,e9y,e8h]
  |yloop a b c=>simp only[b0v,b48,e9y,e8h]
end Go.Ax
/- AxRun: the evaluator: operations in a row, statements, calls. Definitions only. -/
namespace Go.Ax
def a01(H:a02):FHeap:=λb=>(H[b]?).join
def b06(H:a02):Eff→a02
 |.none=>H
 |.new o=>H++[some o]
 |.set b o=>H.set b (some o)
 |.kill b o=>H.set b none++[some o]
/-! ### what a value refers to -/
mutual
def refs:AV→List Nat
 |.ptr b _ _=>[b]
 |.slice b _ _ _=>[b]
 |.map b=>[b]
 |.yfn b=>[b]
 |.func _ fs cs=>a0a fs++a0a cs
 |.iface _ x=>refs x
 |.agg cs=>a0a cs
 |.tuple cs=>a0a cs
 |.junk|.bool _|.int ..|.str _|.nilptr|.nilslice|.nilmap|.nilfunc|.nilifc|.iptr _|.islice ..|.imap ..|.iset _=>[]
def a0a:List AV→List Nat
 | []=>[]
 |v::vs=>refs v++a0a vs
end
def d0o:List (Nat×AV)→List Nat
 | []=>[]
 |(_,v)::r=>refs v++d0o r
theorem c68{F:List (Nat×AV)}{x:Nat×AV}(hx:x∈F){c:Nat}(hc:c∈refs x.2):c∈d0o F:=by
 induction F with
 |nil=>cases hx
 |cons y F ih=>
  simp only[d0o,e7h];rcases e6v.1 hx with rfl|hx
  ·exact .inl hc
  ·exact .inr (ih hx)
def a0t:Option AObj→List Nat
 |some (.yloop _ F _)=>d0o F
 |some (.row _ aa)=>aa.flatMap a0a
 |some (.map ks vs _ _)=>a0a ks++a0a vs
 |_=>[]
def a0q:List Nat→Nat→Bool
 | [],_=>false
 |a::r,x=>bif Nat.beq a x then true else a0q r x
theorem a1x{l:List Nat}{x:Nat}:a0q l x=true↔x∈l:=by
 induction l with
 |nil=>simp[a0q]
 |cons a r ih=>
  simp only[a0q,c9l,cond_eq_ite,e6v];by_cases h:a=x
  ·simp[h]
  ·simp only[e7r.2 h,e7w,e9z,ih];exact⟨.inr,λh'=>h'.resolve_left (λe=>h e.symm)⟩
def a1i(H:a02):Nat→List Nat→List Nat→List Nat
 |0,_,aH=>aH.reverse
 |_+1,[],aH=>aH.reverse
 |n+1,b::aZ,aH=>bif a0q aH b then a1i H n aZ aH else a1i H n (a0t (a01 H b)++aZ) (b::aH)
def a2p:Nat:=1000000
/-! ### renaming a heap -/
def a8e(σ:List Nat):Nat→Option Nat:=λb=>σ.idxOf? b
def a4n(H:a02)(σ:List Nat)(π:Nat→Option Nat):a02:=σ.map λb=>(a01 H b).map (a0d π)
def a1f(σ:List Nat)(n:Nat):Nat→Option Nat:=λj=>bif Nat.blt j σ.length then σ[j]? else some (n+(j-σ.length))
def a14(σ:List Nat)(n:Nat)(H1:a02):Nat→a02→a02
 |_,[]=>[]
 |b,o::r=>(match σ.idxOf? b with
  |some j=>(a01 H1 j).map (a0d (a1f σ n))
  |none=>o)::a14 σ n H1 (b+1) r
def a4e:List Nat→Bool
 | []=>true
 |b::r=>!(a0q r b)&&a4e r
def a27(run:List AV→a02→Option (AV×a02))(args:List AV)(H:a02):Option (AV×a02×List Nat):=
 let σ:=a1i H a2p (a0a args) []
 bif a4e σ&&σ.all (λb=>Nat.blt b H.length)then
  match run (args.map (ren (a8e σ))) (a4n H σ (a8e σ))with
  |some (v,H1)=>some (ren (a1f σ H.length) v,a14 σ H.length H1 0 H++(H1.drop σ.length).map (Option.map (a0d (a1f σ H.length))),σ)
  |none=>none
 else none
/-! ### lent calls -/
mutual
def noI:AV→Bool
 |.iptr _=>false
 |.islice _ _=>false
 |.imap _ _ _ _=>false
 |.iset _=>false
 |.func _ fs cs=>c3n fs&&c3n cs
 |.iface _ x=>noI x
 |.agg cs=>c3n cs
 |.tuple cs=>c3n cs
 |.junk|.bool _|.int ..|.str _|.nilptr|.nilslice|.nilmap|.nilfunc|.nilifc|.ptr _ _ _|.slice _ _ _ _|.map _|.yfn _=>true
def c3n:List AV→Bool
 | []=>true
 |v::vs=>noI v&&c3n vs
end
def d8k:AObj→Bool
 |.row _ aa=>aa.all c3n
 |.map ks vs _ _=>c3n ks&&c3n vs
 |.siter _ _=>true
 |.uset _=>true
 |_=>false
def a84(H:a02):FHeap:=λb=>match a01 H b with
 |some o=>bif d8k o then some o else none
 |none=>none
def a7b(run:List AV→a02→Option (AV×a02))(args:List AV)(H:a02):Option (AV×a02×List Nat):=
 match a4l 0 false (a3w (a01 H) 0 12) args with
 |some aq=>match run aq []with
  |some (v,H1)=>bif noI v then match a30 0 false (a3w (a84 H1) 0 12) v with
   |some v'=>some (v',H,List.range H.length)
   |none=>none
   else none
  |none=>none
 |none=>none
def e65(args:List AV):Option AV:=
 match args with
 | [.str s,.int .u8 c]=>some (.int .i64 (Lib.indexByte s c.toNat.toUInt8))
 |_=>none
def a09(E:Env)(ah:Bool)(call:FuncId→List AV→a02→Option (AV×a02))(f:AV)(args:List AV)(H:a02):Option (AV×a02×List Nat):=
 match f with
 |.func (.func g) fs cs=>bif E.ext g then(bif (E.fn g).isSome then a7b (call g) (fs++args++cs) H else match e65 (fs++args++cs)with
  |some v=>some (v,H,[])
  |none=>none)
  else bif (E.fn g).isSome then
   match a27 (call g) (fs++args++cs) H with
   |some (v,H',σ)=>bif ah && !(Nat.ble H.length H'.length)then none else some (v,H',σ)
   |none=>none
  else none
 |.yfn b=>match a27 (call yId) (.yfn b::args) H with
  |some (v,H',σ)=>bif ah && !(Nat.ble H.length H'.length)then none else some (v,H',σ)
  |none=>none
 |_=>none
/-! ### operations in a row -/
structure LogE where
 needs:List Nat
 keys:List Nat
def Eff.keys(n:Nat):Eff→List Nat
 |.none=>[]
 |.new _=>[n]
 |.set b _=>[b]
 |.kill b _=>[b,n]
def Eff.fits(n:Nat):Eff→Bool
 |.set b _=>Nat.blt b n
 |.kill b _=>Nat.blt b n
 |_=>true
def a0e:AV→List Nat
 |.ptr b _ _=>[b]
 |.slice b _ _ _=>[b]
 |.map b=>[b]
 |_=>[]
def a7l(op:Op)(v:Operand→AV):List Nat:=
 match op with
 |.load _ a=>a0e (v a)
 |.store _ a _=>a0e (v a)
 |.convert _ _ x=>a0e (v x)
 |.slice _ x _ _ _=>a0e (v x)
 |.indexAddr _ x _=>a0e (v x)
 |.lookup _ m _ _=>a0e (v m)
 |.mapUpdate _ m _ _=>a0e (v m)
 |.insert _ m _ _=>a0e (v m)
 |.mapEntry _ m _=>a0e (v m)
 |.entryStore _ m _ _=>a0e (v m)
 |.next it _=>a0e (v it)
 |.entry it=>a0e (v it)
 |.call { callee:=.builtin _,args,.. }=>args.toList.flatMap λx=>a0e (v x)
 |_=>[]
def a5s(E:Env)(f:AV)(H H':a02)(σ:List Nat):Bool:=match f with
 |.func (.func g) _ _=>E.ro g&&σ.all λb=>b0v (a01 H b) (a01 H' b)
 |_=>false
def b3o(ro:Bool)(σ:List Nat)(n n':Nat):List Nat:=bif Nat.beq n' n then(bif ro then[]else σ)else σ++List.range' n (n'-n)
def a0n(E:Env)(ah:Bool)(call:FuncId→List AV→a02→Option (AV×a02))(F:Frm)(H:a02)(op:Op):Option (AV×a02×LogE):=
 match op with
 |.call { callee:=.value f,args,.. }=>match a09 E ah call (opv E F f) (args.toList.map (opv E F)) H with
  |some (v,H',σ)=>some (v,H',⟨σ,b3o (a5s E (opv E F f) H H' σ) σ H.length H'.length⟩)
  |none=>none
 |op=>match aop E H.length (a01 H) op (opv E F)with
  |some (v,e)=>bif e.fits H.length then some (v,b06 H e,⟨a7l op (opv E F),e.keys H.length⟩)else none
  |none=>none
def a60(N:Nat):Option Tmp→Bool
 |none=>true
 |some d=>Nat.blt d N
def b80(a b:List Nat):Bool:=a.any λx=>a0q b x
def LogE.clash(x y:LogE):Bool:=b80 x.keys y.needs||b80 x.keys y.keys||b80 x.needs y.keys
def a8z(all:List Oper)(i:Nat):Nat→Nat→Bool
 |0,_=>false
 |n+1,j=>match all[j]? with
  |some o=>o.after.toList.any λe=>Region.binds .any e&&(e.on==i||a8z all i n e.on)
  |none=>false
def d4e(all:List Oper)(i j:Nat):Bool:=
 match all[j]? with
 |some o=>o.after.toList.any λe=>Region.binds .any e&&e.on==i
 |none=>false
def a58(all:List Oper)(i j:Nat):Bool:=d4e all i j||a8z all i all.length j
def logOk.logRow (all:List Oper) (j:Nat) (y:LogE):Nat→List LogE→Bool
 |_,[]=>true
 |0,_::_=>false
 |i+1,x::ai=>(!(x.clash y)||a58 all i j)&&logOk.logRow all j y i ai
def logOk(all:List Oper):Nat→List LogE→Bool
 |_,[]=>true
 |0,_::_=>false
 |j+1,y::ai=>logOk.logRow all j y j ai&&logOk all j ai

def a2g(all:List Oper)(j:Nat):Option Nat:=(all[j]?).bind (·.dst)
def a22(E:Env)(ah:Bool)(N:Nat)(call:FuncId→List AV→a02→Option (AV×a02))(all:List Oper){R:Type} :
 List Oper→List LogE→Frm→a02→(Frm→a02→Option R)→Option R
 | [],log,F,H,k=>bif !ah||logOk all log.length log then k F H else none
 |o::ai,log,F,H,k=>
  bif a60 N o.dst then
   match o.guard with
   |none=>match a0n E ah call F H o.op with
    |some (v,H',l)=>a22 E ah N call all ai (l::log) (a32 F o.dst v) H' k
    |none=>none
   |some (j,bj)=>match a2g all j with
    |none=>none
    |some d=>match a2n F d with
     |.bool b=>bif b then
      (bif bj then match a0n E ah call (a32 F (some d) (.bool true)) H o.op with
       |some (v,H',l)=>a22 E ah N call all ai (l::log) (a32 (a32 F (some d) (.bool true)) o.dst v) H' k
       |none=>none
      else a22 E ah N call all ai (⟨[],[]⟩::log) (a32 (a32 F (some d) (.bool true)) o.dst (.tuple [])) H k)
      else
       (bif bj then a22 E ah N call all ai (⟨[],[]⟩::log) (a32 (a32 F (some d) (.bool false)) o.dst (.tuple [])) H k
       else match a0n E ah call (a32 F (some d) (.bool false)) H o.op with
        |some (v,H',l)=>a22 E ah N call all ai (l::log) (a32 (a32 F (some d) (.bool false)) o.dst v) H' k
        |none=>none)
     |.tuple []=>a22 E ah N call all ai (⟨[],[]⟩::log) (a32 F o.dst (.tuple [])) H k
     |_=>none
  else none
/-! ### statements -/
inductive AExit where
 |normal
 |exit (id:Nat)
 |ret
def a1l(keep:List Nat)(F:Frm):Frm:=keep.map λs=>(s,a2n F s)
def a80(m0:Nat)(F:Frm)(H:a02):List Nat:=(a1i H a2p ((H.take m0).flatMap a0t++a0a (F.map (·.2))) []).filter λb=>Nat.ble m0 b
def b3r(m0:Nat)(σ:List Nat):Nat→Option Nat:=λb=>bif Nat.blt b m0 then some b else(σ.idxOf? b).map (m0 + ·)
def b7b(π:Nat→Option Nat)(F:Frm):Frm:=F.map λx=>(x.1,ren π x.2)
def gcH(m0:Nat)(σ:List Nat)(H:a02):a02:=(H.take m0).map (Option.map (a0d (b3r m0 σ)))++a4n H σ (b3r m0 σ)
def b0x(m0:Nat)(keep:List Nat){R:Type}(body:Frm→a02→(AExit→Frm→a02→Option R)→Option R):Nat→Frm→a02→(AExit→Frm→a02→Option R)→Option R
 |0,_,_,_=>none
 |n+1,F,H,k=>
  let F1:=a1l keep F
  let σ:=a80 m0 F1 H
  bif a4e σ&&σ.all (λb=>Nat.ble m0 b)&&Nat.ble m0 H.length then
   body (b7b (b3r m0 σ) F1) (gcH m0 σ H) λe F' H'=>match e with
    |.normal=>b0x m0 keep body n F' H' k
    |e=>k e F' H'
  else none
/-! ### ranging over a set -/
def gcD(m0:Nat)(keep:List Nat)(F:Frm)(H:a02):Option (Frm×a02):=
 let F1:=a1l keep F
 let σ:=a80 m0 F1 H
 bif a4e σ&&σ.all (λb=>Nat.ble m0 b)&&Nat.ble m0 H.length then some (b7b (b3r m0 σ) F1,gcH m0 σ H)else none
def d0w:List Oper→Option (Nat×Nat×List Oper)
 | []=>none
 |o::ai=>match o.op,o.dst,o.guard with
  |.next (.tmp it) false,some nx,none=>some (it,nx,ai)
  |_,_,_=>none
def a6q:Code→Option Nat
 |.seq (.region _ an false) _=>(d0w an.toList).map (·.1)
 |_=>none
def d11(F:Frm)(H:a02)(it:Nat):Option (AV×a02):=match a2n F it with
 |.ptr b 0 0=>match a01 H b with
  |some (.miter ks b7 (some (some i)))=>some (.tuple [.bool true,.int .i64 i,.bool true],H.set b (some (.miter ks (b7++[i]) none)))
  |some (.miter ks b7 (some none))=>some (.tuple [.bool false],H.set b (some (.miter ks b7 none)))
  |_=>none
 |_=>none
abbrev R3:=AExit×Frm×a02
def e8b(ks aH:List Int)(a:Option Int)(F:Frm)(H:a02)(it:Nat):Option a02:=match a2n F it with
 |.ptr b 0 0=>match a01 H b with
  |some (.miter ie b7 _)=>bif decide (ie=ks)&&decide (b7=aH)then some (H.set b (some (.miter ks b7 (some a))))else none
  |_=>none
 |_=>none
def dropIt(F:Frm)(H:a02)(it:Nat):a02:=match a2n F it with
 |.ptr b _ _=>H.set b none
 |_=>H
def b0g(m0 it:Nat)(keep:List Nat)(ks aH:List Int)(body:Frm→a02→(AExit→Frm→a02→Option R3)→Option R3)(a:Option Int)(F:Frm)(H:a02):Option R3:=
 match gcD m0 keep F H with
 |some (F1,H1)=>match e8b ks aH a F1 H1 it with
  |some H2=>body F1 H2 λe F' H'=>some (e,F',H')
  |none=>none
 |none=>none
def a4o(m0 it:Nat)(keep:List Nat)(ks:List Int)(body:Frm→a02→(AExit→Frm→a02→Option R3)→Option R3):List Int→List Int→Frm→a02→Option R3
 |aH,[],F,H=>match b0g m0 it keep ks aH body none F H with
  |some (.normal,_,_)=>none
  |some (e,F',H')=>some (e,F',dropIt F' H' it)
  |none=>none
 |aH,i::o,F,H=>match b0g m0 it keep ks aH body (some i) F H with
  |some (.normal,F',H')=>a4o m0 it keep ks body (aH++[i]) o F' H'
  |_=>none
def e4m(m0 it:Nat)(keep:List Nat)(F:Frm)(H:a02):Option (List Int):=match gcD m0 keep F H with
 |some (F1,H1)=>match a2n F1 it with
  |.ptr b 0 0=>match a01 H1 b with
   |some (.miter ks [] _)=>some ks
   |_=>none
  |_=>none
 |none=>none
def c3y(x:Int):List Int→List (List Int)
 | []=>[[x]]
 |y::l=>(x::y::l)::(c3y x l).map (y :: ·)
def b4i:List Int→List (List Int)
 | []=>[[]]
 |x::l=>(b4i l).flatMap (c3y x)
def d9u:AExit→AExit→Bool
 |.normal,.normal=>true
 |.ret,.ret=>true
 |.exit a,.exit b=>Nat.beq a b
 |_,_=>false
def c37:a02→a02→Bool
 | [],[]=>true
 |a::H,b::J=>b0v a b&&c37 H J
 |_,_=>false
def d5f(x:Option R3)(r:R3):Bool:=match x with
 |some (e,F,H)=>d9u e r.1&&(b5z F r.2.1&&c37 H r.2.2)
 |none=>false
def c3r(m0 it:Nat)(keep:List Nat){R:Type}(body:Frm→a02→(AExit→Frm→a02→Option R3)→Option R3)(F:Frm)(H:a02)(k:AExit→Frm→a02→Option R):Option R:=
 match e4m m0 it keep F H with
 |some ks=>match(b4i ks).map λo=>a4o m0 it keep ks body [] o F H with
  |some r::rs=>bif rs.all (λx=>d5f x r)then k r.1 r.2.1 r.2.2 else none
  |_=>none
 |none=>none
def c9m(keep:List Nat):Bool:=keep.any λs=>Nat.ble 1000000 s&&Nat.blt s 1001000
def c51:List Nat→Nat
 | []=>0
 |s::r=>bif Nat.ble 1000000 s&&Nat.blt s 1001000 then s-1000000 else c51 r
def d8s(m:Nat)(H:a02)(v:AV):AV:=match a30 m true (a3w (a01 H) m 12) v with
 |some v'=>v'
 |none=>.junk
def c0g(m:Nat)(H:a02)(F:Frm):Frm:=F.map λx=>(x.1,d8s m H x.2)
def b6o(m:Nat)(H:a02):a02:=(H.take m).map (Option.map (b32 m (a3w (a01 H) m 12)))
def yOf:List Nat→Option Nat
 | []=>none
 |s::r=>bif Nat.ble 3000000 s then some (s-3000000)else yOf r
def rfs(N f:Nat):Nat→Code→List (Nat×RInfo)
 |cur,.rangeFunc _ ps asg body=>[(cur,⟨N,ps.toList,asg,body,f⟩)]
 |cur,.seq a b=>rfs N f cur a++rfs N f cur b
 |cur,.cond _ a b=>rfs N f cur a++rfs N f cur b
 |_,.block id b=>rfs N f id b
 |cur,.loop b=>rfs N f cur b
 |cur,.scope b=>rfs N f cur b
 |_,_=>[]
def b2a(cur:Nat):List (Nat×RInfo)→Option RInfo
 | []=>none
 |(c,ri)::r=>bif Nat.beq c cur then some ri else b2a cur r
theorem a5k{N f:Nat}:∀(c:Code) (cur:Nat),b3k c=true→rfs N f cur c=[]
 |.rangeFunc _ _ _ _,cur,h=>by simp[b3k]at h
 |.seq a b,cur,h=>by simp only[b3k,c11]at h;simp[rfs,a5k a cur h.1,a5k b cur h.2]
 |.cond _ a b,cur,h=>by simp only[b3k,c11]at h;simp[rfs,a5k a cur h.1,a5k b cur h.2]
 |.block id b,cur,h=>by simp only[rfs];exact a5k b id h
 |.loop b,cur,h=>by simp only[rfs];exact a5k b cur h
 |.scope b,cur,h=>by simp only[rfs];exact a5k b cur h
 |.skip,_,_=>rfl
 |.label _,_,_=>rfl
 |.region _ _ _,_,_=>rfl
 |.exit _,_,_=>rfl
 |.ret,_,_=>rfl
 |.goto _,_,_=>rfl
 |.refuse _,_,_=>rfl
def RFOk(E:Env)(f N:Nat)(keep:Nat→List Nat)(ro:Option Nat)(cur:Nat)(c:Code):Prop:=(ro.isSome=true→b3k c=true)∧∀x∈rfs N f cur c,∃y,yOf (keep x.1)=some y∧E.G.rnd y=some x.2
section
variable {E:Env}{f N:Nat}{keep:Nat→List Nat}{ro:Option Nat}{cur:Nat}{a b:Code}
theorem RFOk.seq1(h:RFOk E f N keep ro cur (.seq a b)):RFOk E f N keep ro cur a:=⟨λhr=>by have:=h.1 hr;simp only[b3k,c11]at this;exact this.1,λx hx=>h.2 x (by simp[rfs,hx])⟩
theorem RFOk.seq2(h:RFOk E f N keep ro cur (.seq a b)):RFOk E f N keep ro cur b:=⟨λhr=>by have:=h.1 hr;simp only[b3k,c11]at this;exact this.2,λx hx=>h.2 x (by simp[rfs,hx])⟩
theorem RFOk.cond1{c:Operand}(h:RFOk E f N keep ro cur (.cond c a b)):RFOk E f N keep ro cur a:=⟨λhr=>by have:=h.1 hr;simp only[b3k,c11]at this;exact this.1,λx hx=>h.2 x (by simp[rfs,hx])⟩
theorem RFOk.cond2{c:Operand}(h:RFOk E f N keep ro cur (.cond c a b)):RFOk E f N keep ro cur b:=⟨λhr=>by have:=h.1 hr;simp only[b3k,c11]at this;exact this.2,λx hx=>h.2 x (by simp[rfs,hx])⟩
theorem RFOk.block{id:Nat}(h:RFOk E f N keep ro cur (.block id b)):RFOk E f N keep ro id b:=⟨h.1,h.2⟩
theorem RFOk.loop(h:RFOk E f N keep ro cur (.loop b)):RFOk E f N keep ro cur b:=⟨h.1,h.2⟩
theorem RFOk.scope(h:RFOk E f N keep ro cur (.scope b)):RFOk E f N keep ro cur b:=⟨h.1,h.2⟩
end
def d4t(H:a02)(b:Nat)(old new:YSt):Option a02:=match a01 H b with
 |some (.yloop y F st)=>bif decide (st=old)then some (H.set b (some (.yloop y F new)))else none
 |_=>none
def e1z(H:a02)(b:Nat):Option YSt:=match a01 H b with
 |some (.yloop _ _ st)=>some st
 |_=>none
def a3k(E:Env)(m0 N:Nat)(keep:Nat→List Nat)(call:FuncId→List AV→a02→Option (AV×a02))(lf:Nat) :
 Nat→Code→{R:Type}→Frm→a02→(AExit→Frm→a02→Option R)→Option R
 |_,.skip,_,F,H,k=>k .normal F H
 |_,.label _,_,F,H,k=>k .normal F H
 |_,.region _ an ah,_,F,H,k=>match d0w an.toList with
  |none=>a22 E ah N call an.toList an.toList [] F H λF' H'=>k .normal F' H'
  |some (it,nx,ai)=>bif ah || !Nat.blt nx N then none else match d11 F H it with
   |some (v,H')=>a22 E false N call an.toList ai [⟨[],[]⟩] (a32 F (some nx) v) H' λF' H'=>k .normal F' H'
   |none=>none
 |cur,.seq a b,_,F,H,k=>a3k E m0 N keep call lf cur a F H λe F' H'=>match e with
  |.normal=>a3k E m0 N keep call lf cur b F' H' k
  |e=>k e F' H'
 |cur,.cond c x y,_,F,H,k=>match opv E F c with
  |.bool t=>bif t then a3k E m0 N keep call lf cur x F H k else a3k E m0 N keep call lf cur y F H k
  |_=>none
 |_,.block id b,_,F,H,k=>a3k E m0 N keep call lf id b F H λe F' H'=>match e with
  |.exit id'=>bif id'==id then k .normal F' H' else k (.exit id') F' H'
  |e=>k e F' H'
 |cur,.loop b,_,F,H,k=>match a6q b with
  |none=>b0x m0 (keep cur) (λF H k=>a3k E m0 N keep call lf cur b F H k) lf F H λe F' H'=>bif c9m (keep cur)then k e (c0g (m0+c51 (keep cur)) H' F') (b6o (m0+c51 (keep cur)) H')else k e F' H'
  |some it=>c3r m0 it (keep cur) (λF H k=>a3k E m0 N keep call lf cur b F H k) F H k
 |cur,.rangeFunc f _ _ _,_,F,H,k=>match opv E F f,yOf (keep cur)with
  |.func (.func g) fs cs,some y=>bif (E.fn g).isSome && !(E.ext g)then
   match a27 (call g) (fs++[.yfn H.length]++cs) (H++[some (.yloop y (a1l (keep cur) F) .ready)])with
   |some (_,H2,_)=>match e1z H2 H.length with
    |some .ready=>k .normal F (H2.set H.length none)
    |some (.done none)=>k .ret F (H2.set H.length none)
    |some (.done (some id))=>k (.exit id) F (H2.set H.length none)
    |_=>none
   |none=>none
   else none
  |_,_=>none
 |cur,.scope b,_,F,H,k=>a3k E m0 N keep call lf cur b F H k
 |_,.exit id,_,F,H,k=>k (.exit id) F H
 |_,.ret,_,F,H,k=>k .ret F H
 |_,_,_,_,_,_=>none
/-! ### functions -/
def a10(E:Env)(F:Frm)(H:a02):List ResultVar→Option (List AV)
 | []=>some []
 |.tmp t::r=>match a10 E F H r with
  |some vs=>some (a2n F t::vs)
  |none=>none
 |.cell a t::r=>match a5h E (a01 H) t (a2n F a),a10 E F H r with
  |some v,some vs=>some (v::vs)
  |_,_=>none
def a76:List AV→AV
 | [v]=>v
 |vs=>.tuple vs
def a4j:Nat→List AV→Frm
 |_,[]=>[]
 |i,v::vs=>(i,v)::a4j (i+1) vs
def a3b(h:FHeap)(b:Nat):FHeap:=λx=>bif Nat.beq x b then none else h x
def d46(m:Nat)(v:AV)(H:a02):Option (AV×a02):=match v with
 |.ptr b i o=>bif Nat.ble m b then(match a01 H b with
  |some (.row k aa)=>match frzT m (a3w (a3b (a01 H) b) m 12) aa with
   |some a6=>some (.ptr m i o,(H.take m).map (Option.map (a0d (a15 m)))++[some (.row k a6)])
   |none=>none
  |_=>none)else none
 |.slice b off len cap=>some (.slice b off len cap,H)
 |.agg cs=>some (.agg cs,H)
 |.tuple cs=>some (.tuple cs,H)
 |.map b=>some (.map b,H)
 |.func f fs cs=>some (.func f fs cs,H)
 |.nilslice=>some (.nilslice,(H.take m).map (Option.map (a0d (a15 m))))
 |_=>none
def a1q(thaw:Bool)(m:Nat)(v:AV)(H:a02):Option (AV×a02):=
 bif thaw then(bif Nat.beq m 0 then d46 m v H else some (v,H))else match a30 m true (a3w (a01 H) m 12) v with
  |some v'=>some (v',(H.take m).map (Option.map (a0d (a15 m))))
  |none=>some (v,H)
def b9h:Frm→List Nat→List AV→Frm
 |F,t::ts,v::vs=>b9h (a32 F (some t) v) ts vs
 |F,_,_=>F
def a7p(E:Env)(call:FuncId→List AV→a02→Option (AV×a02))(lf:Nat)(args:List AV)(H:a02):Option (AV×a02):=match args with
 |.yfn b::vs=>match a01 H b with
  |some (.yloop y F .ready)=>match E.G.rnd y with
   |some ri=>bif Nat.beq vs.length ri.ps.length&&ri.ps.all (Nat.blt · ri.N)then
    a3k E H.length ri.N (E.keep ri.fid) call lf 0 ri.asg (b9h F ri.ps vs) H λe F' H'=>match e with
     |.normal=>match d4t H' b .ready .busy with
      |some H1=>a3k E H.length ri.N (E.keep ri.fid) call lf 0 ri.body F' H1 λe _ H2=>match e with
       |.normal=>(d4t H2 b .busy .ready).map (.bool true,·)
       |.ret=>(d4t H2 b .busy (.done none)).map (.bool false,·)
       |.exit id=>(d4t H2 b .busy (.done (some id))).map (.bool false,·)
      |none=>none
     |_=>none
    else none
   |none=>none
  |_=>none
 |_=>none
end Go.Ax
/- AxNow: what e0t at a3l point of a function's run, against its entry. -/
namespace Go.Ax
structure Entry where
 I:Nat→Prop
 K:Nat→Prop
 ρ:PMap
 m:Nat
 w:World
def Marks(e:Entry)(I:Nat→Prop)(w:World)(ds:List Deferred):Prop:=∃rs:List Nat,ds=rs.map (λr=>(⟨.collected r,#[]⟩:Deferred))∧rs.Nodup∧∀r∈rs,I r∧e.w.heap.size≤r∧w.heap[r]?=some (.deferred (some []))
theorem Marks.nil{e:Entry}{I:Nat→Prop}{w:World}:Marks e I w []:=⟨[],rfl,List.nodup_nil,λ_ h=>(by cases h)⟩
theorem Marks.mono{e:Entry}{I I':Nat→Prop}{w w':World}{ds:List Deferred}(h:Marks e I w ds)(hI:∀c,I c→I' c)(hw:∀c,I c→w'.heap[c]?=w.heap[c]?):Marks e I' w' ds:=by obtain⟨rs,h1,h2,h3⟩:=h;exact⟨rs,h1,h2,λr hr=>⟨hI r (h3 r hr).1,(h3 r hr).2.1,by rw[hw r (h3 r hr).1];exact(h3 r hr).2.2⟩⟩
theorem a2k{a:Act}{d:Option Nat}{c:Value}:(a.put d c).defers=a.defers:=by cases d<;>rfl
def NRel(ρ:PMap)(n:Nat):Prop:=∀b,n≤b→ρ b=none
structure Now(E:Env)(e:Entry)(N:Nat)(F:Frm)(H:a02)(I:Nat→Prop)(ρ:PMap)(a:Act)(w:World):Prop where
 imm:∀c,e.I c→I c
 map:∀b,b<e.m→ρ b=e.ρ b
 ext:Ext e.I e.K e.w w
 rel:HRel E.G I e.K ρ (a01 H) w
 nrel:NRel ρ H.length
 frm:FRel I w ρ N F a.tmps
 low:e.m≤H.length
 marks:Marks e I w a.defers
section
variable {E:Env}
theorem b5k(H:a02):a01 H H.length=none:=by simp[a01]
theorem c29(H:a02)(e:Eff):∀b o,a01 (b06 H e) b=some o→((a01 H).eff H.length e) b=some o:=by
 intro b o hb;cases e with
 |none=>exact hb
 |new o1=>
  simp only[b06,a01,FHeap.eff,FHeap.set]at hb⊢;by_cases h:b=H.length
  ·subst h;simp at hb;simp[hb]
  ·rw[e5s h];rcases e84 b H.length with h1|h1
   ·rwa [e6j h1]at hb
   ·rw[e6n (by simp;omega)]at hb;simp at hb
 |set b1 o1=>
  simp only[b06,a01,FHeap.eff,FHeap.set]at hb⊢;rw[e70]at hb;by_cases h:b=b1
  ·subst h;rw[e6q rfl]at hb⊢;split at hb
   ·simpa using hb
   ·simp at hb
  ·rw[e5s (λe=>h e.symm)]at hb;rw[e5s h];exact hb
 |kill b1 o1=>
  simp only[b06,a01,FHeap.eff,FHeap.set]at hb⊢;by_cases h:b=H.length
  ·subst h;rw[e6p (by simp)]at hb;simp at hb;simp[hb]
  ·rw[e5s h];rcases e84 b H.length with h1|h1
   ·rw[e6j (by simpa using h1),e70]at hb;by_cases h2:b=b1
    ·subst h2;rw[e6q rfl]at hb;split at hb<;>simp at hb
    ·rw[e5s (λe=>h2 e.symm)]at hb;rw[e5s h2];exact hb
   ·rw[e6n (by simp;omega)]at hb;simp at hb
theorem a8l(H:a02)(e:Eff):(b06 H e).length=if e.fresh then H.length+1 else H.length:=by cases e<;>simp[b06,Eff.fresh]
theorem NRel.moves{ρ ρ':PMap}{H:a02}{e:Eff}(hn:NRel ρ H.length)(hm:Moves ρ ρ' H.length e):NRel ρ' (b06 H e).length:=by
 intro b hb;rw[a8l]at hb;cases hf:e.fresh with
 |false=>rw[hf]at hb;rw[hm.2 hf];exact hn b (by simpa using hb)
 |true=>
  rw[hf]at hb;have hb:H.length+1≤b:=by simpa using hb
  rw[hm.1 b (by omega)];exact hn b (by omega)
theorem Now.op(ok:EnvOk E){e:Entry}{N:Nat}{F:Frm}{H:a02}{I:Nat→Prop}{ρ:PMap}{a:Act}{w:World}(h:Now E e N F H I ρ a w){o:Oper}{v:AV}{eff:Eff}
 (ha:aop E H.length (a01 H) o.op (opv E F)=some (v,eff))(hd:a60 N o.dst=true) :
 ∃x w' c ρ',(execOp a.eval o).run E.P w = .ok x w'∧(x = .value c∨(x = .skip∧c=undef))∧Now E e N (a32 F o.dst v) (b06 H eff) I ρ' (a.put o.dst c) w':=by
 obtain⟨x,w',c,ρ',ae,hx,step,hv,hm⟩:=d4k ok h.rel (b5k H) (h.nrel _ (e6o _)) ha (b21 h.rel h.frm);refine⟨x,w',c,ρ',ae,hx,?_⟩;have jU:∀s,o.dst=some s→s<N:=by intro s hs;rw[hs]at hd;simpa[a60,e6u]using hd
 refine⟨h.imm,λb hb=>?_,h.ext.trans h.imm step.ext,step.rel.fewer (c29 H eff),h.nrel.moves hm,?_,?_,?_⟩
 ·rw[hm.1 b (by have:=h.low;omega)];exact h.map b hb
 ·exact(FRel.mono h.frm (λv c hv=>step.vrel hv)).set jU hv
 ·rw[a8l];have:=h.low;split<;>omega
 ·rw[a2k];exact h.marks.mono (λ_ h=>h) (λc hc=>step.ext.keep c (.inl hc))
theorem Now.refine{e:Entry}{N:Nat}{F:Frm}{H:a02}{I:Nat→Prop}{ρ:PMap}{a:Act}{w:World}(h:Now E e N F H I ρ a w){d:Nat}{v:AV}(hv:VRel I w ρ v (a.tmps.getD d undef)) :
 Now E e N (a32 F (some d) v) H I ρ a w:=
 { h with frm:=⟨h.frm.1,λs=>by
  rw[a7f];split
  ·rename_i hs;subst hs;exact hv
  ·exact h.frm.2 s⟩ }
theorem Now.skip{e:Entry}{N:Nat}{F:Frm}{H:a02}{I:Nat→Prop}{ρ:PMap}{a:Act}{w:World}(h:Now E e N F H I ρ a w){o:Oper}(hd:a60 N o.dst=true) :
 Now E e N (a32 F o.dst (.tuple [])) H I ρ (a.put o.dst undef) w:=
 { h with
  frm:=h.frm.set (by intro s hs;rw[hs]at hd;simpa[a60,e6u]using hd) (by simp only[VRel,undef];exact⟨#[],rfl,by simp[VRels]⟩)
  marks:=by rw[a2k];exact h.marks }
end
end Go.Ax
/- AxCall: a call on the blocks that its arguments a1i, and back. -/
namespace Go.Ax
structure Ret(E:Env)(I K:Nat→Prop)(ρ:PMap)(m:Nat)(w:World)(I':Nat→Prop)(ρ':PMap)(H':a02)(w':World):Prop where
 imm:∀c,I c→I' c
 map:∀b,b<m→ρ' b=ρ b
 ext:Ext I K w w'
 rel:HRel E.G I' K ρ' (a01 H') w'
 nrel:NRel ρ' H'.length
 low:m≤H'.length
abbrev e8e:=List Value→World→(Ending→World→Prop)→Prop
def XR(E:Env):e8e:=λam w R=>∃l vs fn tmps asg body,am = .func (.yield l) #[] #[]::vs∧(Instr.yield l vs.toArray).run E.P w = .ok (.round l fn tmps asg body) w∧RoundIn Fence.wide 0 E.P l fn tmps asg body w R
def XOf(E:Env)(g:FuncId):e8e:=if g=yId then XR E else λam w R=>Calls E.P g am.toArray w R
theorem XOf.mono{E:Env}{g:FuncId}{am:List Value}{w:World}{R R':Ending→World→Prop}(h:XOf E g am w R)(hr:∀e w',R e w'→R' e w'):XOf E g am w R':=by
 unfold XOf at h⊢;split at h
 ·rename_i hg;rw[e6q hg];obtain⟨l,vs,fn,tmps,asg,body,h1,h2,h3⟩:=h;exact⟨l,vs,fn,tmps,asg,body,h1,h2,h3.mono hr⟩
 ·rename_i hg;rw[e5s hg];exact Calls.mono h hr
theorem b3i{E:Env}{g:FuncId}(hg:g≠yId):XOf E g=λam w R=>Calls E.P g am.toArray w R:=e5s hg
theorem d80{E:Env}:XOf E yId=XR E:=e6q rfl
theorem c45{E:Env}(ok:EnvOk E){g:FuncId}{i:FInfo}(h:E.fn g=some i):g≠yId:=λe=>by rw[e,ok.yid]at h;cases h
def a9i(E:Env)(f:FuncId)(run:List AV→a02→Option (AV×a02)):Prop:=
 ∀args H v H',run args H=some (v,H')→∀(I K:Nat→Prop) (ρ:PMap) (w:World) (am:List Value),HRel E.G I K ρ (a01 H) w→NRel ρ H.length→VRels I w ρ args am→
  XOf E f am w λen w'=>∃c I' ρ',en = .returned c∧Ret E I K ρ H.length w I' ρ' H' w'∧VRel I' w' ρ' v c
def b3j(K:Nat→Prop)(ρ:PMap)(hp:FHeap)(σ:List Nat):Nat→Prop:=λc=>K c∨∃b o m,hp b=some o∧ρ b=some m∧m.blk=c∧b∉σ
theorem a1w{σ:List Nat}{b j:Nat}(h:σ.idxOf? b=some j):σ[j]?=some b:=by rw[List.idxOf?_eq_some_iff]at h;obtain⟨hj,hb,_⟩:=h;rw[z9e hj,hb]
theorem a9x{σ:List Nat}{b:Nat}(h:σ.idxOf? b=none):b∉σ:=by simpa[List.idxOf?_eq_none_iff]using h
theorem a7u{l:List Nat}(h:a4e l=true):l.Nodup:=by
 induction l with
 |nil=>exact List.nodup_nil
 |cons b r ih=>simp only[a4e,c11,e7z,←Bool.not_eq_true,a1x]at h;exact e8t.2 ⟨h.1,ih h.2⟩
theorem a7c{σ:List Nat}{b j:Nat}(hn:σ.Nodup)(h:σ[j]?=some b):σ.idxOf? b=some j:=by rw[List.idxOf?_eq_some_iff];obtain⟨hj,hb⟩:=e5k.1 h;refine⟨hj,hb,λi hi he=>?_⟩;have:=(List.getElem_inj (h₀:=by omega) (h₁:=hj) hn).1 (he.trans hb.symm);omega
section
variable {E:Env}{I K:Nat→Prop}{ρ:PMap}{hp:FHeap}{w:World}{σ:List Nat}
def a54(hp:FHeap)(σ:List Nat):a02:=σ.map λb=>(hp b).map (a0d (a8e σ))
theorem b47(j:Nat):a01 (a54 hp σ) j=(σ[j]?).bind λb=>(hp b).map (a0d (a8e σ)):=by simp only[a01,a54,e5n];cases σ[j]?<;>simp
theorem c70(r:HRel E.G I K ρ hp w)(hn:σ.Nodup):HRel E.G I (b3j K ρ hp σ) (λj=>(σ[j]?).bind ρ) (a01 (a54 hp σ)) w:=by
 have r1:HRel E.G I K (λj=>(σ[j]?).bind ρ) (a01 (a54 hp σ)) w:=by
  refine r.rename (π:=a8e σ) ?_ ?_ ?_
  ·intro b j m hj hb;have:=a1w hj;simp only[this,e8n,hb]
  ·intro j o' ho;rw[b47]at ho;cases hb:σ[j]? with
   |none=>rw[hb]at ho;simp at ho
   |some b=>
    rw[hb]at ho;simp only[e8n]at ho;cases dE:hp b with
    |none=>rw[dE]at ho;simp at ho
    |some o=>rw[dE]at ho;simp only[e5p,Option.some.injEq]at ho;exact⟨b,o,dE,a7c hn hb,ho.symm⟩
  ·intro j m hj;cases hb:σ[j]? with
   |none=>rw[hb]at hj;simp at hj
   |some b=>rw[hb]at hj;exact r.dom b m hj
 refine⟨?_,r1.inj,r1.dom,r1.imm,?_,?_,r1.glob⟩
 ·intro j o' ho;obtain⟨m,h1,h2,h3,h4⟩:=r1.live j o' ho;refine⟨m,h1,h2,?_,h4⟩
  rintro(hk|⟨b,o,m',hb,a9,he,gp⟩)
  ·exact h3 hk
  ·rw[b47]at ho;cases hσ:σ[j]? with
   |none=>rw[hσ]at ho;simp at ho
   |some b'=>
    rw[hσ]at ho h1;simp only[e8n]at ho h1;have hl:(hp b').isSome:=by cases h:hp b' with|none=>rw[h]at ho;simp at ho|some _=>rfl
    have:=r.inj b b' m' m (by simp[hb]) hl a9 h1 he;subst this;exact gp (e12 hσ)
 ·rintro c (hk|⟨b,o,m',hb,a9,rfl,_⟩)
  ·exact r.kept c hk
  ·exact r.dom b m' a9
 ·rintro c hc (hk|⟨b,o,m',hb,a9,rfl,_⟩)
  ·exact r.apart c hc hk
  ·obtain⟨qn,h1,h2,_⟩:=r.live b o hb;obtain rfl:m'=qn:=z9o (a9.symm.trans h1);exact h2 hc
theorem b6w{g:FuncId}{run:List AV→a02→Option (AV×a02)}(ae:a9i E g run){args:List AV}{am:List Value}{v1:AV}{H1:a02}
 (ag:run (args.map (ren (a8e σ))) (a54 hp σ)=some (v1,H1))(r:HRel E.G I K ρ hp w)(hn:σ.Nodup)(ha:VRels I w ρ args am) :
 XOf E g am w λen w'=>∃c I1 ρ1,en = .returned c∧Ret E I (b3j K ρ hp σ) (λj=>(σ[j]?).bind ρ) σ.length w I1 ρ1 H1 w'∧VRel I1 w' ρ1 v1 c:=by
 have h:=ae _ _ _ _ ag I (b3j K ρ hp σ) (λj=>(σ[j]?).bind ρ) w am (c70 r hn)
  (by intro j hj;simp only[a54,c10]at hj;simp[e6n hj])
  (by rw[←a74];exact VRels.ren (λb j m hj hb=>by have:=a1w hj;simp only[this,e8n,hb]) args ha)
 simpa[a54]using h
theorem b6y{n:Nat}{I1:Nat→Prop}{ρ1:PMap}{H1:a02}{w':World}(r:HRel E.G I K ρ hp w)(_:σ.Nodup)
 (aA:Ret E I (b3j K ρ hp σ) (λj=>(σ[j]?).bind ρ) σ.length w I1 ρ1 H1 w'){ρ2:PMap}{h2:FHeap}
 (aJ:∀b m,ρ b=some m→ρ2 b=some m)(bG:∀j b m,a1f σ n j=some b→ρ1 j=some m→ρ2 b=some m)
 (jT:∀b m,ρ2 b=some m→ρ b=some m∨∃j,ρ1 j=some m)
 (hh:∀b o,h2 b=some o→(b∉σ∧hp b=some o)∨∃j o1,a1f σ n j=some b∧a01 H1 j=some o1∧o=a0d (a1f σ n) o1) :
 HRel E.G I1 K ρ2 h2 w':=by
 have bu:=aA.ext.size;have bP:∀c,I c→w'.heap[c]?=w.heap[c]?:=λc hc=>aA.ext.keep c (.inl hc);have r1:=aA.rel;have gb:∀b o,h2 b=some o→∃m,ρ2 b=some m∧¬I1 m.blk∧¬K m.blk∧ORel E.G I1 w' ρ2 m o∧((b∉σ∧hp b=some o∧ρ b=some m)∨∃j,a1f σ n j=some b∧(a01 H1 j).isSome∧ρ1 j=some m):=by
  intro b o hb;rcases hh b o hb with ⟨gp,dE⟩|⟨j,o1,hj,dk,rfl⟩
  ·obtain⟨m,h1,h3,h4,h5⟩:=r.live b o dE;have pA:b3j K ρ hp σ m.blk:=.inr ⟨b,o,m,dE,h1,rfl,gp⟩;refine⟨m,aJ b m h1,λhc=>r1.apart _ hc pA,h4,?_,.inl ⟨gp,dE,h1⟩⟩;exact ORel.mono o aA.imm bP aJ (aA.ext.keep _ (.inr pA)) h5
  ·obtain⟨m,h1,h3,h4,h5⟩:=r1.live j o1 dk;refine⟨m,bG j b m hj h1,h3,λhk=>h4 (.inl hk),ORel.ren (λj b m hj h=>bG j b m hj h) o1 h5,.inr ⟨j,hj,by simp[dk],h1⟩⟩
 refine⟨?_,?_,?_,r1.imm,?_,?_,r1.glob⟩
 ·intro b o hb;obtain⟨m,h1,h3,h4,h5,_⟩:=gb b o hb;exact⟨m,h1,h3,h4,h5⟩
 ·intro b b' m m' hb aR hm a9 he;obtain⟨o,ho⟩:=e4v.1 hb;obtain⟨o',dh⟩:=e4v.1 aR;obtain⟨q,hq,_,_,_,hc⟩:=gb b o ho;obtain⟨q',fD,_,_,_,mK⟩:=gb b' o' dh;rw[hm]at hq;cases hq;rw[a9]at fD;cases fD;rcases hc with ⟨gp,dE,h1⟩|⟨j,hj,hl,h1⟩<;>rcases mK with ⟨nF,li,fa⟩|⟨j',i6,mF,fa⟩
  ·exact r.inj b b' m m' (by simp[dE]) (by simp[li]) h1 fa he
  ·exfalso;obtain⟨o1,dk⟩:=e4v.1 mF;obtain⟨q,hq,_,hk,_⟩:=r1.live j' o1 dk;rw[fa]at hq;cases hq;exact hk (.inr ⟨b,o,m,dE,h1,he,gp⟩)
  ·exfalso;obtain⟨o1,dk⟩:=e4v.1 hl;obtain⟨q,hq,_,hk,_⟩:=r1.live j o1 dk;rw[h1]at hq;cases hq;exact hk (.inr ⟨b',o',m',li,fa,he.symm,nF⟩)
  ·have:=r1.inj j j' m m' hl mF h1 fa he;subst this;rw[hj]at i6;exact z9o i6
 ·intro b m hb;rcases jT b m hb with h|⟨j,h⟩
  ·have:=r.dom b m h;omega
  ·exact r1.dom j m h
 ·intro c hc;have:=r.kept c hc;omega
 ·intro c hc hk;exact r1.apart c hc (.inl hk)
end
end Go.Ax
/- AxCall2: a call in sequence; the concrete step of a call. -/
namespace Go.Ax
section
variable {E:Env}{I K:Nat→Prop}{ρ:PMap}{w:World}
theorem a6d(σ:List Nat)(n:Nat)(H1:a02):∀(b0:Nat) (H:a02) (i:Nat),
 (a14 σ n H1 b0 H)[i]?=(H[i]?).map λo=>match σ.idxOf? (b0+i)with
  |some j=>(a01 H1 j).map (a0d (a1f σ n))
  |none=>o
 |b0,[],i=>by simp[a14]
 |b0,o::r,0=>by simp[a14]<;>rfl
 |b0,o::r,i+1=>by simp only[a14,e7g];rw[a6d σ n H1 (b0+1) r i,show b0+1+i=b0+(i+1) by omega]
theorem a0x(σ:List Nat)(n:Nat)(H1:a02):∀(b0:Nat) (H:a02),(a14 σ n H1 b0 H).length=H.length
 |b0,[]=>by simp[a14]
 |b0,o::r=>by simp[a14,a0x σ n H1 (b0+1) r]
theorem b07{g:FuncId}{run:List AV→a02→Option (AV×a02)}(ae:a9i E g run){args:List AV}{am:List Value}{H H':a02}{v:AV}{σ:List Nat}
 (ag:a27 run args H=some (v,H',σ))(r:HRel E.G I K ρ (a01 H) w)(hn:NRel ρ H.length)(ha:VRels I w ρ args am) :
 XOf E g am w λen w'=>∃c I' ρ',en = .returned c∧Ret E I K ρ H.length w I' ρ' H' w'∧VRel I' w' ρ' v c:=by
 unfold a27 at ag;simp only at ag;generalize hσ:a1i H a2p (a0a args) []=σ' at ag;rw[cond_eq_ite]at ag;split at ag
 case isFalse=>cases ag
 rename_i hc;simp only[c11,e6x,e6u]at hc;obtain⟨bz,ak⟩:=hc;have bz:=a7u bz;split at ag
 case h_2=>cases ag
 rename_i v1 H1 hr;simp only[Option.some.injEq,Prod.mk.injEq]at ag;obtain⟨rfl,rfl,rfl⟩:=ag;have gm:run (args.map (ren (a8e σ'))) (a54 (a01 H) σ')=some (v1,H1):=hr;refine XOf.mono (b6w ae gm r bz ha) ?_
 rintro en w' ⟨c,I1,ρ1,rfl,aA,hv⟩
 have bG:∀j b m,a1f σ' H.length j=some b→ρ1 j=some m→(if b<H.length then ρ b else ρ1 (σ'.length+(b-H.length)))=some m:=by
  intro j b m hj hm;simp only[a1f]at hj;rw[cond_eq_ite]at hj;split at hj
  ·rename_i bg;have bg:j<σ'.length:=by simpa[e6u]using bg
   have hb:=ak b (e12 hj);rw[e6q hb];have:=aA.map j bg;rw[hm,hj]at this;exact this.symm
  ·rename_i bg;have bg:σ'.length≤j:=by simpa[e6u]using bg
   cases hj;rw[e5s (by omega),show σ'.length+(H.length+(j-σ'.length)-H.length)=j by omega];exact hm
 have aJ:∀b m,ρ b=some m→(if b<H.length then ρ b else ρ1 (σ'.length+(b-H.length)))=some m:=by
  intro b m hb;have:b<H.length:=by
   rcases e84 b H.length with h|h
   ·exact h
   ·rw[hn b h]at hb;cases hb
  rw[e6q this];exact hb
 refine⟨c,I1,λb=>if b<H.length then ρ b else ρ1 (σ'.length+(b-H.length)),rfl,⟨aA.imm,λb hb=>by rw[e6q hb],aA.ext.keepLess (λc hc=>.inl hc),?_,?_,?_⟩,?_⟩
 ·refine b6y r bz aA aJ bG ?_ ?_
  ·intro b m hb;split at hb
   ·exact .inl hb
   ·exact .inr ⟨_,hb⟩
  ·intro b o hb;simp only[a01]at hb;rcases e84 b H.length with cz|cz
   ·rw[e6j (by rw[a0x];exact cz),a6d]at hb;simp only[e7l]at hb;rw[z9e cz]at hb;simp only[e5p,e8x]at hb;split at hb
    ·rename_i j hj;right;have hσj:=a1w hj;have bg:=(e5k.1 hσj).1;obtain⟨o1,dk,rfl⟩:=a05 hb;refine⟨j,o1,?_,dk,rfl⟩;simp only[a1f];rw[cond_eq_ite,e6q (by simpa[e6u]using bg)];exact hσj
    ·rename_i hj;left;exact⟨a9x hj,by simp only[a01];rw[z9e cz];simpa using hb⟩
   ·right;rw[e6p (by rw[a0x];exact cz),a0x,e5n,List.getElem?_drop]at hb;refine⟨σ'.length+(b-H.length),?_⟩;cases hx:H1[σ'.length+(b-H.length)]? with
    |none=>rw[hx]at hb;simp at hb
    |some ob=>
     rw[hx]at hb;simp only[e5p,e8x]at hb;obtain⟨o1,rfl,rfl⟩:=a05 hb;refine⟨o1,?_,by simp[a01,hx],rfl⟩;simp only[a1f];rw[cond_eq_ite,e5s (by simp[e6u])]
     congr 1;omega
 ·intro b hb;simp only[e6k,a0x,c10,List.length_drop]at hb;have b4:=aA.low;dsimp only;rw[e5s (by omega)];exact aA.nrel _ (by omega)
 ·simp[a0x]
 ·exact VRel.ren (λj b m hj hm=>bG j b m hj hm) v1 hv
theorem a96{a:Act}{o:Oper}{f:Operand}{args:Array Operand}{mn:Array TypeId}(ho:o.op = .call ⟨.value f,args,mn⟩){g:FuncId}{fs cs:Array Value}(hf:a.eval f = .func (.func g) fs cs) :
 (execOp a.eval o).run E.P w=(callFunc g (fs++args.map a.eval++cs)).run E.P w:=by
 obtain⟨dst,op,type,pos,after,guard⟩:=o;simp only at ho;subst ho;simp[execOp,resolve,hf,Deferred.ofValue,invoke]
theorem a39(ok:EnvOk E){g:FuncId}(hg:(E.fn g).isSome=true)(args:Array Value):(callFunc g args).run E.P w = .ok (.enter g args) w:=by
 obtain⟨i,hi⟩:=e4v.1 hg;obtain⟨fn,h1,h2,_,_,h5⟩:=ok.fn g i hi
 have h6:¬fn.name = "runtime.NumGoroutine" := by simpa using h5
 simp[callFunc,h1,h2,h6]
theorem b0r(ok:EnvOk E){g:FuncId}(hg:E.ext g=true)(bN:(E.fn g).isSome=false){args:List AV}{am:List Value}{v:AV}(hv:e65 args=some v)(ha:VRels I w ρ args am) :
 ∃c,(callFunc g am.toArray).run E.P w = .ok (.value c) w∧VRel I w ρ v c:=by
 obtain⟨fn,h1,h2,h3,h4,h5⟩:=ok.ext g hg bN;unfold e65 at hv;split at hv
 case h_2=>cases hv
 rename_i s cc;cases hv;simp only[VRels]at ha;obtain⟨c1,_,rfl,hs,c2,_,rfl,hb,rfl⟩:=ha;simp only[VRel]at hs hb;obtain⟨t,rfl,ht⟩:=hs;subst hb;refine⟨.int .i64 (Lib.indexByte s cc.toNat.toUInt8),?_,by simp[VRel]⟩;have:=Lib.run_indexByteString (P:=E.P) t cc w;rw[ht]at this
 have h6:¬fn.name = "runtime.NumGoroutine" := by simpa using h3
 simp[callFunc,h1,h2,h6,h4,h5,this]
end
end Go.Ax
/- AxWf: the walk of a function's body and that of a round's, in one. -/
namespace Go.Ax
def wf:Option Nat→Fence
 |none=>Fence.wide
 |some l=>Fence.wide.inRound l
@[simp] theorem d4u(ro:Option Nat)(f:FuncId):(wf ro).fn f:=by cases ro<;>trivial
@[simp] theorem c9s(ro:Option Nat):(wf ro).round=ro:=by cases ro<;>rfl
@[simp] theorem e20(ro:Option Nat):(wf ro).depth=none:=by cases ro<;>rfl
theorem d2w{ro:Option Nat}{n:Nat}{P:Program}{f:FuncId}{args:Array Value}{w:World}{R:Ending→World→Prop}:CallsIn (wf ro) n P f args w R↔Calls P f args w R:=by
 cases ro
 ·exact callsIn_wide
 ·exact callsIn_wide (n:=n)
theorem d0j{ro:Option Nat}{n:Nat}{P:Program}{l:Nat}{f:FuncId}{tmps:Array Value}{assign body:Code}{w:World}{R:Ending→World→Prop} :
 RoundIn (wf ro) n P l f tmps assign body w R↔RoundIn Fence.wide n P l f tmps assign body w R:=by
 cases ro<;>exact Iff.rfl
section
variable {P:Program}{ro:Option Nat}{o:Oper}{a:Act}{w:World}{K:Act→World→Prop}{Q:Exit→Act→World→Prop}
theorem a6v(hd:∀c,o.op≠ .defer c)(h:o.uponIn (wf ro) 0 P a K Q ((execOp a.eval o).run P w)):o.wpIn (wf ro) 0 P a w K Q:=⟨λf _=>d4u ro f,by rw[c9s,Oper.semAt_eq _ _ _ hd];exact h⟩
theorem a7n{f:FuncId}{args:Array Value}(h:Calls P f args w fun
 |.returned v,gP=>K (a.put o.dst v) gP
 |.panicked chain,gP=>Q (.panic chain) a gP
 |.outgrown,_=>LetsOut Q):o.uponIn (wf ro) 0 P a K Q (.ok (.enter f args) w):=
 ⟨λh=>by simp at h,d2w.2 h⟩
theorem b42{l:Nat}{f:FuncId}{tmps:Array Value}{assign body:Code}(h:RoundIn Fence.wide 0 P l f tmps assign body w fun
 |.returned v,gP=>K (a.put o.dst v) gP
 |.panicked chain,gP=>Q (.panic chain) a gP
 |.outgrown,_=>LetsOut Q):o.uponIn (wf ro) 0 P a K Q (.ok (.round l f tmps assign body) w):=
 ⟨λh=>by simp at h,d0j.2 h⟩
theorem b3f{E:Env}{n:Nat}{h:FHeap}{op:Op}{v:Operand→AV}{r:AV×Eff}(ha:aop E n h op v=some r):∀c,op≠ .defer c:=by
 rintro c rfl
 simp[aop]at ha
theorem b54{f:Operand}{args:Array Operand}{mn:Array TypeId}(ho:o.op = .call ⟨.value f,args,mn⟩){l:Nat}(hf:a.eval f = .func (.yield l) #[] #[]) :
 (execOp a.eval o).run P w=(Instr.yield l (args.map a.eval)).run P w:=by
 obtain⟨dst,op,type,pos,after,guard⟩:=o;simp only at ho;subst ho;simp[execOp,resolve,hf,Deferred.ofValue,invoke]
end
end Go.Ax
/- AxLend: lent calls: the callee sees its caller's memory as immutable, and gives new memory only, which is frozen at once. -/
namespace Go.Ax
section
variable {I I':Nat→Prop}{w:World}{ρ:PMap}
mutual
theorem VRel.noI:∀(v:AV) {c:Value},noI v=true→VRel I w ρ v c→VRel I' w ρ v c
 |.junk,c,_,h=>by simp[VRel]
 |.bool b,c,_,h=>by simpa[VRel]using h
 |.int k n,c,_,h=>by simpa[VRel]using h
 |.str s,c,_,h=>by simpa[VRel]using h
 |.nilptr,c,_,h=>by simpa[VRel]using h
 |.nilslice,c,_,h=>by simpa[VRel]using h
 |.nilmap,c,_,h=>by simpa[VRel]using h
 |.nilfunc,c,_,h=>by simpa[VRel]using h
 |.nilifc,c,_,h=>by simpa[VRel]using h
 |.ptr b i o,c,_,h=>by simpa only[VRel]using h
 |.slice b off len cap,c,_,h=>by simpa only[VRel]using h
 |.map b,c,_,h=>by simpa only[VRel]using h
 |.yfn b,c,_,h=>by simpa only[VRel]using h
 |.iptr cs,c,hn,_=>by simp[Ax.noI]at hn
 |.islice aa cap,c,hn,_=>by simp[Ax.noI]at hn
 |.imap ks vs bs bd,c,hn,_=>by simp[Ax.noI]at hn
 |.iset ks,c,hn,_=>by simp[Ax.noI]at hn
 |.func fn fs cs,c,hn,h=>by simp only[Ax.noI,c11]at hn;simp only[VRel]at h⊢;obtain⟨a,b,rfl,h1,h2⟩:=h;exact⟨a,b,rfl,VRels.noI fs hn.1 h1,VRels.noI cs hn.2 h2⟩
 |.iface t x,c,hn,h=>by simp only[Ax.noI]at hn;simp only[VRel]at h⊢;obtain⟨a,rfl,h1⟩:=h;exact⟨a,rfl,VRel.noI x hn h1⟩
 |.agg cs,c,hn,h=>by simp only[Ax.noI]at hn;simp only[VRel]at h⊢;obtain⟨a,rfl,h1⟩:=h;exact⟨a,rfl,VRels.noI cs hn h1⟩
 |.tuple cs,c,hn,h=>by simp only[Ax.noI]at hn;simp only[VRel]at h⊢;obtain⟨a,rfl,h1⟩:=h;exact⟨a,rfl,VRels.noI cs hn h1⟩
theorem VRels.noI:∀(vs:List AV) {cs:List Value},c3n vs=true→VRels I w ρ vs cs→VRels I' w ρ vs cs
 | [],cs,_,h=>by simpa[VRels]using h
 |v::vs,cs,hn,h=>by simp only[c3n,c11]at hn;simp only[VRels]at h⊢;obtain⟨c,aF,rfl,h1,h2⟩:=h;exact⟨c,aF,rfl,VRel.noI v hn.1 h1,VRels.noI vs hn.2 h2⟩
end
theorem VAt.noI:∀(vs:List AV) {b off:Nat},c3n vs=true→VAt I w ρ vs b off→VAt I' w ρ vs b off
 | [],b,off,_,h=>by simp[VAt]
 |v::vs,b,off,hn,h=>by simp only[c3n,c11]at hn;simp only[VAt]at h⊢;obtain⟨⟨c,hc,h1⟩,h2⟩:=h;exact⟨⟨c,hc,VRel.noI v hn.1 h1⟩,VAt.noI vs hn.2 h2⟩
theorem VRows.noI{k:Nat}:∀(rs:List (List AV)) {b off:Nat},rs.all c3n=true→VRows I w k ρ rs b off→VRows I' w k ρ rs b off
 | [],b,off,_,h=>by simp[VRows]
 |r::rs,b,off,hn,h=>by simp only[List.all_cons,c11]at hn;simp only[VRows]at h⊢;exact⟨h.1,VAt.noI r hn.1 h.2.1,VRows.noI rs hn.2 h.2.2⟩
theorem ORel.noI{G:GTab (List AV)}{m:Pl}(o:AObj)(hn:d8k o=true)(h:ORel G I w ρ m o):ORel G I' w ρ m o:=by
 cases o with
 |row k aa=>exact⟨h.1,h.2.1,h.2.2.1,VRows.noI aa hn h.2.2.2⟩
 |map ks vs bs bd=>simp only[d8k,c11]at hn;obtain⟨es,h1,h2,h3,h4⟩:=h;exact⟨es,h1,VRels.noI ks hn.1 h2,VRels.noI vs hn.2 h3,h4⟩
 |siter s pos=>exact h
 |uset ks=>exact h
 |miter ks b7 cD=>simp[d8k]at hn
 |yloop y F st=>simp[d8k]at hn
end
theorem a6k{H:a02}{b:Nat}{o:AObj}(h:a84 H b=some o):a01 H b=some o∧d8k o=true:=by
 unfold a84 at h;split at h
 case h_2=>cases h
 rename_i o' ho;rw[cond_eq_ite]at h;split at h
 case isFalse=>cases h
 rename_i hn;cases h;exact⟨ho,hn⟩
section
variable {E:Env}{I K:Nat→Prop}{ρ:PMap}{h hl:FHeap}{w:World}
theorem b84{g:FuncId}{run:List AV→a02→Option (AV×a02)}(ae:a9i E g run)(be:∀b o,hl b=some o→h b=some o)(r:HRel E.G I K ρ h w){args aq:List AV}{am:List Value}{v v':AV}{H1:a02}
 (ha:VRels I w ρ args am)(hf:a4l 0 false (a3w hl 0 12) args=some aq)(hr:run aq []=some (v,H1))(hn:noI v=true)(hv:a30 0 false (a3w (a84 H1) 0 12) v=some v') :
 XOf E g am w λen w'=>∃c I',en = .returned c∧(∀c,I c→I' c)∧Ext I K w w'∧HRel E.G I' K ρ h w'∧VRel I' w' ρ v' c:=by
 have rl:HRel E.G I K ρ hl w:=r.fewer be;have hI:∀c,I c→a31 I ρ hl 0 c:=λc hc=>.inl hc;have h1:=a7g hI (a4x rl 12) args hf ha;rw[a6m]at h1;have rR:∀c,a31 I ρ hl 0 c→a31 I ρ h 0 c:=by
  rintro c (hc|⟨b,o,p,h0,hb,hp,he⟩)
  ·exact .inl hc
  ·exact .inr ⟨b,o,p,h0,be b o hb,hp,he⟩
 have h2:VRels (a31 I ρ h 0) w noP aq am:=VRels.mono rR (λ_ _=>rfl) aq (λ_ _ h=>h) h1;have kF:∀c,a31 I ρ h 0 c→c<w.heap.size:=by
  rintro c (hc|⟨b,o,p,_,_,hp,rfl⟩)
  ·exact r.imm c hc
  ·exact r.dom b p hp
 have m8:HRel E.G (a31 I ρ h 0) K noP (a01 []) w:=by
  refine⟨λb o hb=>by simp[a01]at hb,λb b' m m' hb=>by simp[a01]at hb,λb m hb=>by simp[noP]at hb,kF,r.kept,?_,λg cs hg=>⟨.inl (r.glob g cs hg).1,VAt.mono (λc hc=>.inl hc) (λ_ _=>rfl) cs (λ_ _ h=>h) rfl (r.glob g cs hg).2⟩⟩
  rintro c (hc|⟨b,o,p,_,hb,hp,rfl⟩)
  ·exact r.apart c hc
  ·obtain⟨q,hq,_,hk,_⟩:=r.live b o hb;rw[hp]at hq;cases hq;exact hk
 have ag:=ae aq [] v H1 hr (a31 I ρ h 0) K noP w am m8 (λ_ _=>rfl) h2;refine XOf.mono ag ?_
 rintro en w' ⟨c,I1,ρ1,rfl,aA,mz⟩
 have keep:∀c,I c→w'.heap[c]?=w.heap[c]?:=λc hc=>aA.ext.keep c (.inl (.inl hc));have bu:=aA.ext.size;have iM:∀b o p,a84 H1 b=some o→ρ1 b=some p→¬I1 p.blk∧¬K p.blk:=by intro b o p hb hp;obtain⟨q,hq,h3,h4,_⟩:=aA.rel.live b o (a6k hb).1;rw[hp]at hq;cases hq;exact⟨h3,h4⟩
 have m7:HRel E.G I K ρ1 (a84 H1) w':=by
  refine⟨?_,?_,aA.rel.dom,λc hc=>by have:=r.imm c hc;omega,aA.rel.kept,r.apart,λg cs hg=>⟨(r.glob g cs hg).1,VAt.mono (λ_ h=>h) keep cs (λ_ _ h=>h) (keep _ (r.glob g cs hg).1) (r.glob g cs hg).2⟩⟩
  ·intro b o hb;obtain⟨cf,dF⟩:=a6k hb;obtain⟨q,hq,h3,h4,h5⟩:=aA.rel.live b o cf;exact⟨q,hq,λhc=>h3 (aA.imm _ (.inl hc)),h4,ORel.noI o dF h5⟩
  ·intro b b' m m' hb aR;obtain⟨o,ho⟩:=e4v.1 hb;obtain⟨o',dh⟩:=e4v.1 aR;exact aA.rel.inj b b' m m' (by rw[(a6k ho).1];rfl) (by rw[(a6k dh).1];rfl)
 have o8:=a9z (I':=a31 I ρ1 (a84 H1) 0) (λc hc=>.inl hc) (a4x m7 12) v hv (VRel.noI (I':=I) v hn mz);rw[a6m]at o8;refine⟨c,a31 I ρ1 (a84 H1) 0,rfl,λc hc=>.inl hc,⟨aA.ext.os,aA.ext.tape,aA.ext.output,bu,λc hc=>aA.ext.keep c (hc.imp .inl id)⟩,?_,VRel.mono (λ_ h=>h) (λ_ _=>rfl) v' (λ_ _ h=>by simp[noP]at h) o8⟩;refine⟨?_,r.inj,λb m hb=>by have:=r.dom b m hb;omega,?_,aA.rel.kept,?_,λg cs hg=>⟨.inl (r.glob g cs hg).1,VAt.mono (λc hc=>.inl hc) keep cs (λ_ _ h=>h) (keep _ (r.glob g cs hg).1) (r.glob g cs hg).2⟩⟩
 ·intro b o hb;obtain⟨m,h3,h4,h5,h6⟩:=r.live b o hb;have bS:a31 I ρ h 0 m.blk:=.inr ⟨b,o,m,e5q _,hb,h3,rfl⟩;refine⟨m,h3,?_,h5,ORel.mono o (λc hc=>.inl hc) keep (λ_ _ h=>h) (aA.ext.keep _ (.inl bS)) h6⟩
  rintro(hc|⟨b',o',p,_,aR,hp,he⟩)
  ·exact h4 hc
  ·exact(iM b' o' p aR hp).1 (he▸aA.imm _ bS)
 ·rintro c (hc|⟨b',o',p,_,aR,hp,rfl⟩)
  ·have:=r.imm c hc;omega
  ·exact aA.rel.dom b' p hp
 ·rintro c (hc|⟨b',o',p,_,aR,hp,rfl⟩)
  ·exact r.apart c hc
  ·exact(iM b' o' p aR hp).2
theorem b2e{run:List AV→a02→Option (AV×a02)}{args:List AV}{H H':a02}{v':AV}{σ:List Nat}(ag:a7b run args H=some (v',H',σ)) :
 H'=H∧σ=List.range H.length∧∃aq v H1,a4l 0 false (a3w (a01 H) 0 12) args=some aq∧run aq []=some (v,H1)∧noI v=true∧a30 0 false (a3w (a84 H1) 0 12) v=some v':=by
 unfold a7b at ag;split at ag
 case h_2=>cases ag
 rename_i aq h1;split at ag
 case h_2=>cases ag
 rename_i v H1 h2;rw[cond_eq_ite]at ag;split at ag
 case isFalse=>cases ag
 rename_i h3;split at ag
 case h_2=>cases ag
 rename_i v2 h4;cases ag;exact⟨rfl,rfl,aq,v,H1,h1,h2,h3,h4⟩
theorem c3v{g:FuncId}{run:List AV→a02→Option (AV×a02)}(ae:a9i E g run){args:List AV}{am:List Value}{H H':a02}{v:AV}{σ:List Nat}
 (ag:a7b run args H=some (v,H',σ))(r:HRel E.G I K ρ (a01 H) w)(hn:NRel ρ H.length)(ha:VRels I w ρ args am) :
 XOf E g am w λen w'=>∃c I' ρ',en = .returned c∧Ret E I K ρ H.length w I' ρ' H' w'∧VRel I' w' ρ' v c:=by
 obtain⟨rfl,-,aq,v0,H1,h1,h2,h3,h4⟩:=b2e ag;refine XOf.mono (b84 ae (λ_ _ h=>h) r ha h1 h2 h3 h4) ?_
 rintro en w' ⟨c,I',rfl,hI,bK,bo,hv⟩
 exact⟨c,I',ρ,rfl,⟨hI,λ_ _=>rfl,bK,bo,hn,e6o _⟩,hv⟩
end
end Go.Ax
/- AxSeq: operations in a row that draw no order. -/
namespace Go.Ax
section
variable {E:Env}
theorem Now.call{e:Entry}{N:Nat}{F:Frm}{H H':a02}{I I':Nat→Prop}{ρ ρ':PMap}{a:Act}{w w':World}(h:Now E e N F H I ρ a w)(r:Ret E I e.K ρ H.length w I' ρ' H' w')
 {d:Option Tmp}{v:AV}{c:Value}(hd:a60 N d=true)(hv:VRel I' w' ρ' v c):Now E e N (a32 F d v) H' I' ρ' (a.put d c) w':=by
 have hρ:∀b m,ρ b=some m→ρ' b=some m:=by
  intro b m hb;have:b<H.length:=by
   rcases e84 b H.length with h'|h'
   ·exact h'
   ·rw[h.nrel b h']at hb;cases hb
  rw[r.map b this];exact hb
 refine⟨λc hc=>r.imm c (h.imm c hc),λb hb=>?_,h.ext.trans h.imm r.ext,r.rel,r.nrel,?_,?_,?_⟩
 ·rw[r.map b (by have:=h.low;omega)];exact h.map b hb
 ·exact(FRel.mono h.frm (λv c hv=>VRel.mono r.imm (λc hc=>r.ext.keep c (.inl hc)) v hρ hv)).set (by intro s hs;rw[hs]at hd;simpa[a60,e6u]using hd) hv
 ·have:=h.low;have:=r.low;omega
 ·rw[a2k];exact h.marks.mono r.imm (λc hc=>r.ext.keep c (.inl hc))
def a3e(E:Env)(call:FuncId→List AV→a02→Option (AV×a02)):Prop:=∀g,a9i E g (call g)
theorem c5p(ok:EnvOk E){ro:Option Nat}{call:FuncId→List AV→a02→Option (AV×a02)}(ag:a3e E call){ah:Bool}{e:Entry}{N:Nat}{F:Frm}{H H':a02}{I:Nat→Prop}{ρ:PMap}{a:Act}{w:World}
 (h:Now E e N F H I ρ a w){o:Oper}{v:AV}{l:LogE}(hs:a0n E ah call F H o.op=some (v,H',l))(hd:a60 N o.dst=true){K:Act→World→Prop}{Q:Exit→Act→World→Prop}
 (hK:∀I' ρ' a' w',Now E e N (a32 F o.dst v) H' I' ρ' a' w'→K a' w'):o.wpIn (wf ro) 0 E.P a w K Q:=by
 unfold a0n at hs;split at hs
 ·rename_i f args mn cX;split at hs
  case h_2=>cases hs
  rename_i v' H1 σ aQ;cases hs;refine a6v (by rw[cX];intro c hc;cases hc) ?_;unfold a09 at aQ;split at aQ
  case h_3=>cases aQ
  case h_2=>
   rename_i b gB;have hf:=b21 h.rel h.frm f;rw[gB]at hf;simp only[VRel]at hf;obtain⟨m,hm,e8⟩:=hf;rw[b54 cX e8];split at aQ
   case h_2=>cases aQ
   rename_i kE H2 σ2 di;rw[cond_eq_ite]at aQ;split at aQ
   case isTrue=>cases aQ
   cases aQ;have aG:VRels I w ρ (.yfn b::args.toList.map (opv E F)) (.func (.yield m.blk) #[] #[]::(args.map a.eval).toList):=by simp only[VRels];refine⟨_,_,rfl,by simp only[VRel];exact⟨m,hm,rfl⟩,?_⟩;rw[e8w];exact a4b (b21 h.rel h.frm) args.toList
   have hc:=b07 (ag yId) di h.rel h.nrel aG;rw[d80]at hc;obtain⟨l,vs,fn,tmps,asg,body,he,hy,hr⟩:=hc;simp only[List.cons.injEq,Value.func.injEq,Fn.yield.injEq,and_true]at he;obtain⟨hl,rfl⟩:=he;rw[hl];have bh:(args.map a.eval).toList.toArray=args.map a.eval:=by apply e9w;simp
   rw[bh]at hy;rw[hy];refine b42 (hr.mono ?_)
   rintro en w' ⟨c,I',ρ',rfl,aA,bU⟩
   exact hK I' ρ' _ _ (h.call aA hd bU)
  rename_i g fs cs gB;have hf:=b21 h.rel h.frm f;rw[gB]at hf;simp only[VRel]at hf;obtain⟨bT,aF,e8,iv,cM⟩:=hf;have aG:VRels I w ρ (fs++args.toList.map (opv E F)++cs) (bT++args.map a.eval++aF).toList:=by simp only[Array.toList_append,e8w];exact VRels.append (VRels.append iv (a4b (b21 h.rel h.frm) args.toList)) cM
  rw[a96 cX e8];rw[cond_eq_ite]at aQ;split at aQ
  ·rename_i bK;rw[cond_eq_ite]at aQ;split at aQ
   ·rename_i hg;rw[a39 ok hg];have hc:=c3v (ag g) aQ h.rel h.nrel aG;obtain⟨i,hi⟩:=e4v.1 hg;rw[b3i (c45 ok hi)]at hc;have bh:(bT++args.map a.eval++aF).toList.toArray=bT++args.map a.eval++aF:=by apply e9w;simp
    rw[bh]at hc;refine a7n (Calls.mono hc ?_)
    rintro en w' ⟨c,I',ρ',rfl,aA,bU⟩
    exact hK I' ρ' _ _ (h.call aA hd bU)
   rename_i bN;split at aQ
   case h_2=>cases aQ
   rename_i kE js;cases aQ;obtain⟨c,ae,bU⟩:=b0r (E:=E) (w:=w) ok bK (by simpa using bN) js aG;have bh:(bT++args.map a.eval++aF).toList.toArray=bT++args.map a.eval++aF:=by apply e9w;simp
   rw[bh]at ae;rw[ae,Oper.uponIn_value];exact hK I ρ _ _ (h.call ⟨λ_ h=>h,λ_ _=>rfl,Ext.refl _ _ _,h.rel,h.nrel,e6o _⟩ hd bU)
  ·rw[cond_eq_ite]at aQ;split at aQ
   case isFalse=>cases aQ
   rename_i hg;split at aQ
   case h_2=>cases aQ
   rename_i kE H2 σ2 di;rw[cond_eq_ite]at aQ;split at aQ
   case isTrue=>cases aQ
   cases aQ;rw[a39 ok hg];have hc:=b07 (ag g) di h.rel h.nrel aG;obtain⟨i,hi⟩:=e4v.1 hg;rw[b3i (c45 ok hi)]at hc;have bh:(bT++args.map a.eval++aF).toList.toArray=bT++args.map a.eval++aF:=by apply e9w;simp
   rw[bh]at hc;refine a7n (Calls.mono hc ?_)
   rintro en w' ⟨c,I',ρ',rfl,aA,bU⟩
   exact hK I' ρ' _ _ (h.call aA hd bU)
 ·split at hs
  case h_2=>cases hs
  rename_i v' eff ha;rw[cond_eq_ite]at hs;split at hs
  case isFalse=>cases hs
  cases hs;obtain⟨x,w',c,ρ',ae,hx,af⟩:=h.op ok ha hd;refine a6v (b3f ha) ?_;rw[ae];rcases hx with rfl|⟨rfl,rfl⟩
  ·rw[Oper.uponIn_value];exact hK I ρ' _ _ af
  ·rw[Oper.uponIn_skip];exact hK I ρ' _ _ af
theorem b40{ro:Option Nat}{P:Program}{an:Array Oper}{Q:Exit→Act→World→Prop}{i:Nat}{ai:List Nat}{a:Act}{w:World}{o:Oper}(ho:an[i]?=some o)
 (hw:Region.wanted o (yielded an a.tmps)=true)(h:o.wpIn (wf ro) 0 P a w (wpOpsIn (wf ro) 0 P an Q ai) Q):wpOpsIn (wf ro) 0 P an Q (i::ai) a w:=by
 simp only[wpOpsIn,ho,hw,e8f];exact h
theorem c2q{ro:Option Nat}{P:Program}{an:Array Oper}{Q:Exit→Act→World→Prop}{i:Nat}{ai:List Nat}{a:Act}{w:World}{o:Oper}(ho:an[i]?=some o)
 (hw:Region.wanted o (yielded an a.tmps)=false)(h:wpOpsIn (wf ro) 0 P an Q ai (a.put o.dst undef) w):wpOpsIn (wf ro) 0 P an Q (i::ai) a w:=by
 simp only[wpOpsIn,ho,hw,e7w,e9z];exact⟨λf _=>d4u ro f,h⟩
theorem c2p{e:Entry}{N:Nat}{F:Frm}{H:a02}{I:Nat→Prop}{ρ:PMap}{a:Act}{w:World}(h:Now E e N F H I ρ a w){an:Array Oper}{j d:Nat}(hg:a2g an.toList j=some d) :
 (∀b,a2n F d = .bool b→yielded an a.tmps j=some b)∧(a2n F d = .tuple []→yielded an a.tmps j=none):=by
 have hd:(an[j]?).bind (·.dst)=some d:=by simpa[a2g]using hg
 have hv:=h.frm.2 d;have a8:∀c,a.tmps.getD d undef=c→c≠undef→a.tmps[d]?=some c:=by
  intro c hc az;rw[e6y]at hc;cases hx:a.tmps[d]? with
  |none=>rw[hx]at hc;exact absurd hc.symm az
  |some x=>rw[hx]at hc;simpa using hc
 refine⟨λb hb=>?_,λhb=>?_⟩
 ·rw[hb]at hv;simp only[VRel]at hv;have:=a8 _ hv (by simp[undef]);simp[yielded,hd,this]
 ·rw[hb]at hv;simp only[VRel]at hv;obtain⟨cs,hc,cM⟩:=hv;unfold yielded;rw[hd];simp only[e8n];rw[e6y]at hc;cases hx:a.tmps[d]? with
  |none=>rfl
  |some x=>rw[hx]at hc;simp only[e7v]at hc;rw[hc]
theorem a9p(ok:EnvOk E){ro:Option Nat}{call:FuncId→List AV→a02→Option (AV×a02)}(ag:a3e E call){e:Entry}{N:Nat}{an:Array Oper}{R:Type}{k:Frm→a02→Option R}{r:R}
 {Q:Exit→Act→World→Prop}(hQ:∀F H I ρ a w,Now E e N F H I ρ a w→k F H=some r→Q .normal a w) :
 ∀(ai:List Oper) (s:Nat) (log:List LogE) (F:Frm) (H:a02) (I:Nat→Prop) (ρ:PMap) (a:Act) (w:World),ai=an.toList.drop s→Now E e N F H I ρ a w→
  a22 E false N call an.toList ai log F H k=some r→wpOpsIn (wf ro) 0 E.P an Q (List.range' s ai.length) a w
 | [],s,log,F,H,I,ρ,a,w,_,af,ae=>by simp only[a22,Bool.not_false,Bool.true_or,e6m]at ae;simp only[e5r,List.range'_zero,wpOpsIn];exact hQ F H I ρ a w af ae
 |o::ai,s,log,F,H,I,ρ,a,w,b3,af,ae=>by
  have ho:an[s]?=some o:=by
   have:(an.toList.drop s)[0]?=some o:=by rw[←b3];rfl
   rw[List.getElem?_drop]at this;simpa using this
  have d8:ai=an.toList.drop (s+1):=by
   have:(an.toList.drop s).drop 1=ai:=by rw[←b3];rfl
   rw[List.drop_drop]at this;exact this.symm
  rw[e5l,List.range'_succ];unfold a22 at ae;rw[cond_eq_ite]at ae;split at ae
  case isFalse=>cases ae
  rename_i hd;have ih:=λlog F H I ρ a w af ae=>a9p (ro:=ro) ok ag hQ ai (s+1) log F H I ρ a w d8 af ae;have exec:∀F0,Now E e N F0 H I ρ a w→(match a0n E false call F0 H o.op with
   |some (v,H',l)=>a22 E false N call an.toList ai (l::log) (a32 F0 o.dst v) H' k
   |none=>none)=some r→Region.wanted o (yielded an a.tmps)=true→wpOpsIn (wf ro) 0 E.P an Q (s::List.range' (s+1) ai.length) a w:=by
   intro F0 bR hr hw;split at hr
   case h_2=>cases hr
   rename_i v H' l hs;exact b40 ho hw (c5p ok ag bR hs hd (λI' ρ' a' w' fi=>ih _ _ _ I' ρ' a' w' fi hr))
  have skip:∀F0 ej,Now E e N F0 H I ρ a w→a22 E false N call an.toList ai ej (a32 F0 o.dst (.tuple [])) H k=some r→Region.wanted o (yielded an a.tmps)=false→
   wpOpsIn (wf ro) 0 E.P an Q (s::List.range' (s+1) ai.length) a w:=by
   intro F0 ej bR hr hw;exact c2q ho hw (ih _ _ _ I ρ _ w (bR.skip hd) hr)
  split at ae
  ·rename_i hg;exact exec F af ae (by simp[Region.wanted,hg])
  ·rename_i j bj hg;split at ae
   case h_1=>cases ae
   rename_i d lK;obtain⟨qw,qv⟩:=c2p af lK;split at ae
   ·rename_i b hb;have ng:=qw b hb;have np:=af.frm.2 d;rw[hb]at np;have hw:Region.wanted o (yielded an a.tmps)=(b==bj):=by simp[Region.wanted,hg,ng]
    cases b
    ·simp only[e6w]at ae;have bR:=af.refine (d:=d) (v:=.bool false) np;cases bj
     ·simp only[e6w]at ae;exact exec _ bR ae (by rw[hw];rfl)
     ·simp only[e6m]at ae;exact skip _ _ bR ae (by rw[hw];rfl)
    ·simp only[e6m]at ae;have bR:=af.refine (d:=d) (v:=.bool true) np;cases bj
     ·simp only[e6w]at ae;exact skip _ _ bR ae (by rw[hw];rfl)
     ·simp only[e6m]at ae;exact exec _ bR ae (by rw[hw];rfl)
   ·rename_i hb;have ng:=qv hb;exact skip F _ af ae (by simp[Region.wanted,hg,ng])
   ·cases ae
end
end Go.Ax
/- AxGc: what may be forgotten: slots behind a region, blocks at a loop's head. -/
namespace Go.Ax
section
variable {E:Env}{e:Entry}{N:Nat}{F:Frm}{H:a02}{I:Nat→Prop}{ρ:PMap}{a:Act}{w:World}
theorem b2p(F:Frm):∀(keep:List Nat) (s:Nat),a2n (a1l keep F) s=if keep.contains s then a2n F s else .junk
 | [],s=>by simp[a1l,a2n]
 |t::keep,s=>by
  have ih:=b2p F keep s;simp only[a1l]at ih⊢;simp only[e4r,a2n,c9l,ih];by_cases nq:t=s
  ·subst nq;simp
  ·have:(s==t)=false:=by simpa using λh=>nq h.symm
   have hc:(t::keep).contains s=keep.contains s:=by rw[List.contains_cons,this,Bool.false_or]
   rw[hc,e7r.2 nq];rfl
theorem Now.keep(h:Now E e N F H I ρ a w)(keep:List Nat):Now E e N (a1l keep F) H I ρ a w:=
 { h with frm:=⟨h.frm.1,λs=>by
  rw[b2p];split
  ·exact h.frm.2 s
  ·simp[VRel]⟩ }
theorem c1z(π:Nat→Option Nat):∀(F:Frm) (s:Nat),a2n (b7b π F) s=ren π (a2n F s)
 | [],s=>by simp[b7b,a2n,ren]
 |(t,v)::F,s=>by have ih:=c1z π F s;simp only[b7b]at ih⊢;simp only[e4r,a2n,c9l,ih];cases h:(t==s)<;>simp
theorem Now.gc(h:Now E e N F H I ρ a w){σ:List Nat}(hn:σ.Nodup)(b4:∀b∈σ,e.m≤b) :
 ∃ρ',Now E e N (b7b (b3r e.m σ) F) (gcH e.m σ H) I ρ' a w:=by
 have aj:(gcH e.m σ H).length=e.m+σ.length:=by have:=h.low;simp[gcH,a4n];omega
 have hπ:∀b b' m,b3r e.m σ b=some b'→ρ b=some m→(if b'<e.m then ρ b' else(σ[b'-e.m]?).bind ρ)=some m:=by
  intro b b' m hp hb;simp only[b3r]at hp;rw[cond_eq_ite]at hp;split at hp
  ·rename_i ak;cases hp;rw[e6q (by simpa[e6u]using ak)];exact hb
  ·obtain⟨j,hj,rfl⟩:=a05 hp;rw[e5s (by omega),e9b,a1w hj];exact hb
 refine⟨λb=>if b<e.m then ρ b else(σ[b-e.m]?).bind ρ,h.imm,λb hb=>?_,h.ext,?_,?_,?_,?_,h.marks⟩
 ·show(if b<e.m then ρ b else _)=_;rw[e6q hb];exact h.map b hb
 ·refine h.rel.rename (π:=b3r e.m σ) hπ ?_ ?_
  ·intro b' o' ho;simp only[a01,gcH]at ho;have da:(H.take e.m).length=e.m:=by have:=h.low;simp;omega
   rcases e84 b' e.m with hb|hb
   ·rw[e6j (by rw[c10,da];exact hb),e5n,e9i,e6q hb]at ho;cases hx:H[b']? with
    |none=>rw[hx]at ho;simp at ho
    |some ob=>rw[hx]at ho;simp only[e5p,e8x]at ho;obtain⟨o,rfl,rfl⟩:=a05 ho;refine⟨b',o,by simp[a01,hx],?_,rfl⟩;simp only[b3r];rw[cond_eq_ite,e6q (by simpa[e6u]using hb)]
   ·rw[e6p (by rw[c10,da];exact hb)]at ho;simp only[c10,da,a4n,e5n]at ho;cases hx:σ[b'-e.m]? with
    |none=>rw[hx]at ho;simp at ho
    |some b=>rw[hx]at ho;simp only[e5p,e8x]at ho;obtain⟨o,dk,rfl⟩:=a05 ho;refine⟨b,o,dk,?_,rfl⟩;have cz:=b4 b (e12 hx);simp only[b3r];rw[cond_eq_ite,e5s (by simpa[e6u]using cz),a7c hn hx];simp only[e5p,Option.some.injEq];omega
  ·intro b m hb;split at hb
   ·exact h.rel.dom b m hb
   ·cases hx:σ[b-e.m]? with
    |none=>rw[hx]at hb;simp at hb
    |some b'=>rw[hx]at hb;exact h.rel.dom b' m hb
 ·intro b hb;rw[aj]at hb;show(if b<e.m then ρ b else _)=_;rw[e5s (by omega),e6n (by omega)];rfl
 ·refine⟨h.frm.1,λs=>?_⟩;rw[c1z];exact VRel.ren hπ _ (h.frm.2 s)
 ·rw[aj];omega
theorem d6r{H:a02}{m b:Nat}{o':AObj}(hb:a01 (b6o m H) b=some o'):∃o,b<m∧a01 H b=some o∧o'=b32 m (a3w (a01 H) m 12) o:=by
 simp only[a01,b6o,e5n,e9i]at hb;split at hb
 case isFalse=>simp at hb
 rename_i ak;cases hx:H[b]? with
 |none=>rw[hx]at hb;simp at hb
 |some ob=>rw[hx]at hb;simp only[e5p,e8x]at hb;obtain⟨o,rfl,rfl⟩:=a05 hb;exact⟨o,ak,by simp[a01,hx],rfl⟩
theorem c20(m:Nat)(H:a02):∀(F:Frm) (s:Nat),a2n (c0g m H F) s = .junk∨a2n (c0g m H F) s=d8s m H (a2n F s)
 | [],s=>.inl (by simp[c0g,a2n])
 |(t,v)::F,s=>by
  have ih:=c20 m H F s;simp only[c0g]at ih⊢;simp only[e4r,a2n,c9l];cases h:(t==s)
  ·simpa using ih
  ·right;simp
theorem Now.frz(h:Now E e N F H I ρ a w)(j:Nat):∃I' ρ',Now E e N (c0g (e.m+j) H F) (b6o (e.m+j) H) I' ρ' a w:=by
 have aj:(b6o (e.m+j) H).length=min (e.m+j) H.length:=by simp[b6o]
 have b4:∀b o',a01 (b6o (e.m+j) H) b=some o'→∃o,b<e.m+j∧a01 H b=some o∧o'=b32 (e.m+j) (a3w (a01 H) (e.m+j) 12) o:=λb o' hb=>d6r hb;refine⟨a31 I ρ (a01 H) (e.m+j),ρ.below (e.m+j) true,λc hc=>.inl (h.imm c hc),λb hb=>?_,h.ext,?_,?_,⟨h.frm.1,λs=>?_⟩,by rw[aj];have:=h.low;omega,h.marks.mono (λ_ h=>.inl h) (λ_ _=>rfl)⟩
 ·rw[←h.map b hb];have:b<e.m+j:=by omega
  simp[PMap.below,this]
 ·exact c0h h.rel b4
 ·intro b hb;rw[aj]at hb;simp only[PMap.below];split
  ·exact h.nrel b (by omega)
  ·rfl
 ·rcases c20 (e.m+j) H F s with h1|h1
  ·rw[h1];simp[VRel]
  ·rw[h1];simp only[d8s];cases hv:a30 (e.m+j) true (a3w (a01 H) (e.m+j) 12) (a2n F s)with
   |none=>simp[VRel]
   |some v'=>exact(a93 (h':=λ_=>none) h.rel hv (h.frm.2 s) (λ_ _ h=>by cases h)).2
theorem Now.drew(h:Now E e N F H I ρ a w):Now E e N F H I ρ a { w with drawn:=w.drawn+1 }:=by
 have s:SameMem w { w with drawn:=w.drawn+1 }:=⟨rfl,rfl,rfl,rfl⟩
 exact⟨h.imm,h.map,h.ext.trans h.imm (s.ext I e.K),h.rel.same s,h.nrel,FRel.mono h.frm (λv c hv=>VRel.mono (w:=w) (w':={ w with drawn:=w.drawn+1 }) (λ_ h=>h) (λ_ _=>rfl) v (λ_ _ h=>h) hv),h.low,h.marks⟩
end
/-! ### a loop that is counted -/
theorem b7h{ro:Option Nat}{P:Program}{c:Code}{Q:Exit→Act→World→Prop}(Inv:Nat→Act→World→Prop)
 (round:∀n a w,Inv (n+1) a w→c.wpIn (wf ro) 0 P (Exit.then (Inv n) Q) a w)(zero:∀a w,¬Inv 0 a w){n:Nat}{a:Act}{w:World}(h:Inv n a w):(Code.loop c).wpIn (wf ro) 0 P Q a w:=by
 have key:∀n a w,Inv n a w→Code.roundsIn (wf ro) 0 P c Q n a w:=by
  intro n
  induction n with
  |zero=>intro a w h;exact absurd h (zero a w)
  |succ n ih=>
   intro a w hI;rw[roundsIn_succ];refine wpIn_mono (round n a w hI) ?_;intro e a w hq;cases e with
   |normal=>exact ih a w hq
   |_=>exact hq
 exact wpIn_loop_rounds n (key n a w h)
end Go.Ax
/- AxLoc: what an operation looks at: the slots of its operands, the blocks that its operands name. -/
namespace Go.Ax
section
variable {E:Env}{n:Nat}{h h':FHeap}
theorem a6n{x:AV}(k:Nat)(hh:∀b∈a0e x,h b=h' b):a1o h k x=a1o h' k x:=by cases x<;>simp only[a0e,e6z,forall_eq]at hh<;>simp only[a1o];rw[hh]
theorem c4p{x:AV}(t:TypeId)(hh:∀b∈a0e x,h b=h' b):b3w E h t x=b3w E h' t x:=by unfold b3w;generalize E.und t=u;cases x<;>simp only[a0e,e6z,forall_eq]at hh<;>(rcases u with _|d;· rfl)<;>cases d<;>first|rfl|(simp only[hh];done)
theorem c0y{x:AV}(t:TypeId)(hh:∀b∈a0e x,h b=h' b):a5h E h t x=a5h E h' t x:=by cases x<;>simp only[a0e,e6z,forall_eq]at hh<;>simp only[a5h];rw[hh]
theorem b8q{p x:AV}(t:TypeId)(hh:∀b∈a0e p,h b=h' b):a6u E h t p x=a6u E h' t p x:=by cases p<;>simp only[a0e,e6z,forall_eq]at hh<;>simp only[a6u];rw[hh]
theorem b8r{x:AV}(t:TypeId)(lo hi mx:Option AV)(hh:∀b∈a0e x,h b=h' b):a4p E h t x lo hi mx=a4p E h' t x lo hi mx:=by unfold a4p;generalize E.und t=u;cases x<;>simp only[a0e,e6z,forall_eq]at hh<;>(rcases u with _|d;· rfl)<;>cases d<;>first|rfl|(simp only[hh];done)
theorem b0y{x:AV}(t:TypeId)(i:AV)(hh:∀b∈a0e x,h b=h' b):a0p E h t x i=a0p E h' t x i:=by unfold a0p;generalize E.und t=u;cases x<;>simp only[a0e,e6z,forall_eq]at hh<;>(rcases u with _|d;· rfl)<;>cases d<;>first|rfl|(simp only[hh];done)
theorem b8x{x:AV}(hh:∀b∈a0e x,h b=h' b):b0t h x=b0t h' x:=by cases x<;>simp only[a0e,e6z,forall_eq]at hh<;>simp only[b0t];rw[hh]
theorem b72{x:AV}(t:TypeId)(k:AV)(ok:Bool)(hh:∀b∈a0e x,h b=h' b):a5f E h t x k ok=a5f E h' t x k ok:=by simp only[a5f,b8x hh]
theorem a7k{x:AV}(t:TypeId)(k:AV)(hh:∀b∈a0e x,h b=h' b):a85 E h t x k=a85 E h' t x k:=by unfold a85;generalize E.und t=u;cases x<;>simp only[a0e,e6z,forall_eq]at hh<;>(rcases u with _|d;· rfl)<;>cases d<;>first|rfl|(simp only[hh];done)
theorem b09{x:AV}(s v:AV)(hh:∀b∈a0e x,h b=h' b):a45 h x s v=a45 h' x s v:=by
 unfold a45;split
 ·rw[hh _ (by simp[a0e])]
 ·rfl
theorem b7i{x:AV}(hh:∀b∈a0e x,h b=h' b):b41 h x=b41 h' x:=by cases x<;>simp only[a0e,e6z,forall_eq]at hh<;>simp only[b41];rw[hh]
theorem b8z{x:AV}(t:TypeId)(k:AV)(ok:Bool)(hh:∀b∈a0e x,h b=h' b):b3g E h t x k ok=b3g E h' t x k ok:=by simp only[b3g,b7i hh]
theorem b3c{x:AV}(t:TypeId)(k v:AV)(hh:∀b∈a0e x,h b=h' b):b3u E h t x k v=b3u E h' t x k v:=by
 unfold b3u;split
 ·rw[hh _ (by simp[a0e])]
 ·rfl
theorem c0z{x:AV}(t:TypeId)(k:AV)(hh:∀b∈a0e x,h b=h' b):c4s E h t x k=c4s E h' t x k:=by
 unfold c4s;split
 ·rw[hh _ (by simp[a0e])]
 ·rfl
theorem b76{x:AV}(hh:∀b∈a0e x,h b=h' b):b0a h x=b0a h' x:=by
 unfold b0a;split
 ·rw[hh _ (by simp[a0e])]
 ·rfl
theorem c0x{x:AV}(s:Bool)(hh:∀b∈a0e x,h b=h' b):b8w h x s=b8w h' x s:=by
 unfold b8w;split
 ·rw[hh _ (by simp[a0e])]
 ·rfl
theorem b90{x:AV}(s d:TypeId)(hh:∀b∈a0e x,h b=h' b):a62 E h s d x=a62 E h' s d x:=by
 have key:=λk=>a6n k hh;unfold a62;split
 ·rfl
 ·rw[key]
 ·rfl
theorem b78{s x:AV}(st xt:TypeId)(hs:∀b∈a0e s,h b=h' b)(hx:∀b∈a0e x,h b=h' b):a3v E h n st xt s x=a3v E h' n st xt s x:=by cases s<;>simp only[a0e,e6z,forall_eq]at hs<;>simp only[a3v,a6n _ hx];rw[hs]
theorem c12{d x:AV}(dt:TypeId)(hs:∀b∈a0e d,h b=h' b)(hx:∀b∈a0e x,h b=h' b):c4t E h dt d x=c4t E h' dt d x:=by cases d<;>simp only[a0e,e6z,forall_eq]at hs<;>simp only[c4t,a6n _ hx];rw[hs]
theorem b91{x:AV}(t:TypeId)(hh:∀b∈a0e x,h b=h' b):b5g E h t x=b5g E h' t x:=by unfold b5g;generalize E.und t=u;cases x<;>simp only[a0e,e6z,forall_eq]at hh<;>(rcases u with _|d;· rfl)<;>cases d<;>first|rfl|(simp only[hh];done)
theorem c4v(b:Builtin)(ts:List TypeId)(args:List AV)(hh:∀b∈args.flatMap a0e,h b=h' b):d3h E n h b ts args=d3h E n h' b ts args:=by
 unfold d3h;split
 ·rw[c4p _ (λb hb=>hh b (by simpa using hb))]
 ·rfl
 ·rw[b78 _ _ (λb hb=>hh b (by simp[hb])) (λb hb=>hh b (by simp[hb]))]
 ·rw[c12 _ (λb hb=>hh b (by simp[hb])) (λb hb=>hh b (by simp[hb]))]
 ·rw[b91 _ (λb hb=>hh b (by simpa using hb))]
 ·rw[c0z _ _ (λb hb=>hh b (by simp[hb]))]
 ·rfl
 ·rfl
 ·rfl
theorem c93{op:Op}{v:Operand→AV}(hh:∀b∈a7l op v,h b=h' b):aop E n h op v=aop E n h' op v:=by
 cases op<;>simp only[a7l]at hh<;>simp only[aop]
 case load=>rw[c0y _ hh]
 case store=>rw[b8q _ hh]
 case convert=>rw[b90 _ _ hh]
 case slice=>rw[b8r _ _ _ _ hh]
 case indexAddr=>rw[b0y _ _ hh]
 case lookup=>rw[b72 _ _ _ hh,b8z _ _ _ hh]
 case mapUpdate=>simp only[a1m,a7k _ _ hh,b3c _ _ _ hh]
 case insert=>simp only[a1m,a7k _ _ hh,b3c _ _ _ hh]
 case mapEntry=>simp only[a9e,a7k _ _ hh]
 case entryStore=>rw[b09 _ _ hh]
 case next=>rw[c0x _ hh]
 case entry=>rw[b76 hh]
 case call c=>
  obtain⟨callee,args,ts⟩:=c;cases callee with
  |builtin b=>simp only at hh⊢;exact c4v _ _ _ (by simpa[List.flatMap_map]using hh)
  |_=>rfl
theorem c94{op:Op}{v v':Operand→AV}(hv:∀x∈op.operands,v x=v' x):aop E n h op v=aop E n h op v':=by
 have iL:∀ps:Array (Nat×Operand),(∀x∈(ps.toList.map (·.2)).toArray,v x=v' x)→(ps.toList.map λp=>(p.1,v p.2))=(ps.toList.map λp=>(p.1,v' p.2)):=λps hp=>e7k λp hm=>by rw[hp p.2 (by simp only[List.mem_toArray,e7t];exact⟨p,hm,rfl⟩)]
 cases op<;>simp only[Op.operands]at hv<;>simp only[aop]
 case build t ps=>rw[iL ps hv]
 case buildSlice t n ps=>rw[iL ps hv]
 case makeFunc fn first eE=>rw[e7k (l:=first.toList) λx hx=>hv x (by simp only[Array.mem_append];exact .inl (by simpa using hx)),e7k (l:=eE.toList) λx hx=>hv x (by simp only[Array.mem_append];exact .inr (by simpa using hx))]
 case call c=>
  obtain⟨callee,args,ts⟩:=c;cases callee with
  |builtin b=>simp only;rw[e7k (l:=args.toList) λx hx=>hv x (by simp only[Call.operands];simp;simpa using hx)]
  |_=>rfl
 case makeMap t r=>cases r<;>simp_all
 case slice t x lo hi mx=>cases lo<;>cases hi<;>cases mx<;>simp_all
 all_goals (first|rfl|(simp_all;done))
end
end Go.Ax
/- AxOrd: operations in any order that their edges allow: what the executed ones amount to, in text order. -/
namespace Go.Ax
/-! ### lists that grow at the front, numbered from the back -/
section
variable {R V:Type}
def nth:List R→Nat→Option R
 | [],_=>none
 |r::ai,j=>if j=ai.length then some r else nth ai j
def pre:List R→Nat→List R
 | [],_=>[]
 |_::ai,i=>if i=ai.length then ai else pre ai i
theorem b23:∀{l:List R} {i:Nat} {r:R},nth l i=some r→i<l.length
 | [],i,r,h=>by simp[nth]at h
 |a::ai,i,r,h=>by
  unfold nth at h;split at h
  ·simp;omega
  ·have:=b23 h;simp;omega
theorem c1o:∀{l:List R} {i:Nat},i<l.length→∃r,nth l i=some r
 | [],i,h=>by simp at h
 |a::ai,i,h=>by
  unfold nth;split
  ·exact⟨a,rfl⟩
  ·exact c1o (by simp at h;omega)
theorem b13{a:R}{l:List R}{i:Nat}{r:R}(h:nth l i=some r):nth (a::l) i=some r:=by have:=b23 h;unfold nth;rw[e5s (by omega)];exact h
theorem b65(a:R)(l:List R):nth (a::l) l.length=some a:=by simp[nth]
def gL(o:R→Nat→Option V)(g0:Nat→V)(S:Nat→Bool):List R→Nat→V
 | []=>g0
 |r::ai=>if S ai.length then λs=>(o r s).getD (gL o g0 S ai s)else gL o g0 S ai
def a3l:Nat→Bool:=λ_=>true
def b7w(S:Nat→Bool)(i:Nat):Nat→Bool:=λj=>j==i||S j
variable {o:R→Nat→Option V}{g0:Nat→V}{S:Nat→Bool}
theorem c22{s:Nat}:∀{l:List R},(∀j r',nth l j=some r'→(o r' s).isSome→S j=true)→gL o g0 S l s=gL o g0 a3l l s
 | [],_=>rfl
 |a::ai,h=>by
  have ih:=c22 (l:=ai) (λj r' hj=>h j r' (b13 hj));simp only[gL,a3l];cases ha:o a s with
  |none=>split<;>simp[ha,ih]
  |some v=>rw[h _ a (b65 a ai) (by simp[ha])];simp[ha]
theorem d6o{i s:Nat}{r:R}:∀{l:List R},nth l i=some r→(∀j r',nth l j=some r'→(o r' s).isSome→(j<i→S j=true)∧(i≤j→S j=false))→
 gL o g0 S l s=gL o g0 a3l (pre l i) s
 | [],h,_=>by simp[nth]at h
 |a::ai,h,hs=>by
  have i9:i≤ai.length→gL o g0 S (a::ai) s=gL o g0 S ai s:=by
   intro hi;simp only[gL];split
   ·rename_i hS;cases ha:o a s with
    |none=>simp[ha]
    |some v=>rw[(hs _ a (b65 a ai) (by simp[ha])).2 hi]at hS;cases hS
   ·rfl
  unfold nth at h;split at h
  ·rename_i hi;subst hi;rw[i9 (e6o _)];simp only[pre,e8f];exact c22 (λj r' hj ho=>(hs j r' (b13 hj) ho).1 (b23 hj))
  ·rename_i hi;have:=b23 h;rw[i9 (by omega)];simp only[pre,e5s hi];exact d6o h (λj r' hj ho=>hs j r' (b13 hj) ho)
theorem b6m{S':Nat→Bool}:∀{l:List R},(∀j,j<l.length→S j=S' j)→gL o g0 S l=gL o g0 S' l
 | [],_=>rfl
 |a::ai,h=>by simp only[gL];rw[h ai.length (by simp),b6m (l:=ai) (λj hj=>h j (by simp;omega))]
theorem c82{i:Nat}{r:R}:∀{l:List R},nth l i=some r→S i=false→(∀k r',nth l k=some r'→i<k→S k=true→∀s,(o r s).isSome→o r' s=none)→
 gL o g0 (b7w S i) l=λs=>(o r s).getD (gL o g0 S l s)
 | [],h,_,_=>by simp[nth]at h
 |a::ai,h,hS,hk=>by
  unfold nth at h;split at h
  ·rename_i hi;cases h;have:gL o g0 (b7w S i) ai=gL o g0 S ai:=b6m λj hj=>by simp[b7w];omega
   simp only[gL,this];subst hi;simp[b7w,hS]
  ·rename_i hi;have ak:=b23 h;have ih:=c82 h hS (λk r' hr=>hk k r' (b13 hr));simp only[gL,ih];have hp:b7w S i ai.length=S ai.length:=by simp[b7w];intro he;omega
   rw[hp];split
   ·rename_i iF
    funext s
    cases hr:o r s with
    |none=>simp
    |some v=>rw[hk _ a (b65 a ai) ak iF s (by simp[hr])];simp
   ·rfl
end
/-! ### edges -/
def a6o(all:List Oper)(S:Nat→Bool)(j:Nat):Prop:=∀o,all[j]?=some o→∀e∈o.after.toList,Region.binds .any e=true→S e.on=true
theorem b2l{all:List Oper}{S:Nat→Bool}(hS:∀j,S j=true→a6o all S j)(i:Nat):∀n j,a6o all S j→a8z all i n j=true→S i=true
 |0,j,_,h=>by simp[a8z]at h
 |n+1,j,hj,h=>by
  unfold a8z at h;split at h
  ·rename_i o ho;simp only[List.any_eq_true,c11,e9o,e9d]at h;obtain⟨e,he,hb,h⟩:=h;have nE:=hj o ho e he hb;rcases h with rfl|h
   ·exact nE
   ·exact b2l hS i n e.on (hS _ nE) h
  ·cases h
theorem b4k{all:List Oper}{S:Nat→Bool}(hS:∀j,S j=true→a6o all S j){i j:Nat}(hj:a6o all S j)(h:a58 all i j=true):S i=true:=by
 unfold a58 at h;rw[e9o]at h;rcases h with h|h
 ·unfold d4e at h;split at h
  ·rename_i o ho;simp only[List.any_eq_true,c11,e9d]at h;obtain⟨e,he,hb,rfl⟩:=h;exact hj o ho e he hb
  ·cases h
 ·exact b2l hS i _ j hj h
theorem b83{all:List Oper}{j:Nat}{y:LogE}:∀{l:List LogE},logOk.logRow all j y l.length l=true→∀i x,nth l i=some x→x.clash y=true→a58 all i j=true
 | [],_,i,x,h,_=>by simp[nth]at h
 |a::ai,hl,i,x,h,hc=>by
  simp only[e5l,logOk.logRow,c11,e9o,e7z]at hl;unfold nth at h;split at h
  ·rename_i hi;cases h;subst hi;rcases hl.1 with h'|h'
   ·rw[hc]at h';cases h'
   ·exact h'
  ·exact b83 hl.2 i x h hc
theorem b15{all:List Oper}:∀{l:List LogE},logOk all l.length l=true→∀i j x y,i<j→nth l i=some x→nth l j=some y→x.clash y=true→a58 all i j=true
 | [],_,i,j,x,y,_,h,_,_=>by simp[nth]at h
 |a::ai,hl,i,j,x,y,bc,hi,hj,hc=>by
  simp only[e5l,logOk,c11]at hl;unfold nth at hj;split at hj
  ·rename_i pB;cases hj;subst pB;unfold nth at hi;rw[e5s (by omega)]at hi;exact b83 hl.1 i x hi hc
  ·have:=b23 hj;unfold nth at hi;rw[e5s (by omega)]at hi;exact b15 hl.2 i j x y bc hi hj hc
/-! ### what is asked of a region's text -/
def b0c(l:List Operand):List Nat:=l.filterMap λ|.tmp t=>some t|_=>none
def looks(all:List Oper)(o:Oper):List Nat:=
 b0c o.op.operands.toList++(match o.guard with
  |some (g,_)=>(a2g all g).toList
  |none=>[])
def a55(all:List Oper)(x y:Oper):Bool:=
 (match x.dst with|some d=>(looks all y).contains d|none=>false) ||
 (match y.dst with|some d=>(looks all x).contains d|none=>false) ||
 (match x.dst,y.dst with|some d,some d'=>d==d'|_,_=>false)
def b31(all:List Oper)(j:Nat)(y:Oper):Nat→List Oper→Bool
 |_,[]=>true
 |i,x::r=>(Nat.ble j i || !(a55 all x y)||a58 all i j)&&b31 all j y (i+1) r
def a98(all:List Oper):Nat→List Oper→Bool
 |_,[]=>true
 |j,y::r=>y.after.toList.all (λe=>!(Region.binds .any e)||Nat.blt e.on j)&&b31 all j y 0 all&&a98 all (j+1) r
def c2a(all:List Oper):Bool:=a98 all 0 all
theorem b57{all:List Oper}{j:Nat}{y:Oper}:∀{l:List Oper} {s:Nat},b31 all j y s l=true→∀i x,l[i]?=some x→s+i<j→a55 all x y=true→a58 all (s+i) j=true
 | [],s,_,i,x,h,_,_=>by simp at h
 |a::r,s,hl,0,x,h,bc,hm=>by
  simp only[b31,c11,e9o,e7z,e8m]at hl;simp only[e7m,Option.some.injEq]at h;subst h;rcases hl.1 with (h|h)|h
  ·omega
  ·rw[hm]at h;cases h
  ·exact h
 |a::r,s,hl,i+1,x,h,bc,hm=>by simp only[b31,c11]at hl;have:=b57 hl.2 i x (by simpa using h) (by omega) hm;rw[show s+(i+1)=s+1+i by omega];exact this
theorem b30{all:List Oper}:∀{l:List Oper} {s:Nat},a98 all s l=true→∀j y,l[j]?=some y→
 (∀e∈y.after.toList,Region.binds .any e=true→e.on<s+j)∧∀i x,all[i]?=some x→i<s+j→a55 all x y=true→a58 all i (s+j)=true
 | [],s,_,j,y,h=>by simp at h
 |a::r,s,hl,0,y,h=>by simp only[a98,c11,e6x,e9o,e7z,e6u]at hl;simp only[e7m,Option.some.injEq]at h;subst h;refine⟨λe he hb=>(hl.1.1 e he).resolve_left (by simp[hb]),λi x hx hi hm=>?_⟩;have:=b57 hl.1.2 i x hx (by omega) hm;simpa using this
 |a::r,s,hl,j+1,y,h=>by simp only[a98,c11]at hl;have:=b30 hl.2 j y (by simpa using h);rw[show s+(j+1)=s+1+j by omega];exact this
theorem a99{all:List Oper}(h:c2a all=true){j:Nat}{y:Oper}(hy:all[j]?=some y) :
 (∀e∈y.after.toList,Region.binds .any e=true→e.on<j)∧∀i x,all[i]?=some x→i<j→a55 all x y=true→a58 all i j=true:=by
 have:=b30 h j y hy;simpa using this
end Go.Ax
/- AxDraw: a region that draws its order: one run in text order stands for a3l order. -/
namespace Go.Ax
theorem c92{E:Env}{n n':Nat}{h:FHeap}{op:Op}{v:Operand→AV}{x:AV}{e:Eff}(ha:aop E n h op v=some (x,e))(he:e.fresh=false):aop E n' h op v=some (x,e):=by
 have app:∀st xt s y,a3v E h n st xt s y=some (x,e)→a3v E h n' st xt s y=some (x,e):=by
  intro st xt s y hy;unfold a3v at hy⊢;simp only[cond_eq_ite]at hy⊢
  repeat' split at hy
  all_goals first
   |(cases hy;done)
   |(cases hy;simp[Eff.fresh]at he;done)
   |(simp_all;done)
   |(simp_all;rename_i hh;exact hh.2)
 have oQ:∀st xt s y,a2d E n st xt s y=some (x,e)→a2d E n' st xt s y=some (x,e):=by
  intro st xt s y hy;unfold a2d at hy⊢;simp only[cond_eq_ite]at hy⊢
  repeat' split at hy
  all_goals first
   |(cases hy;done)
   |(cases hy;simp[Eff.fresh]at he;done)
   |(simp_all;done)
 have blt:∀b ts args,d3h E n h b ts args=some (x,e)→d3h E n' h b ts args=some (x,e):=by
  intro b ts args hb;unfold d3h at hb⊢;split at hb
  all_goals first
   |exact hb
   |exact app _ _ _ _ hb
   |(rcases a8f hb with hb|hb<;>first|(rw[app _ _ _ _ hb];rfl)|(rw[c14 hb n' h,oQ _ _ _ _ hb];rfl))
 cases op
 case alloc t=>
  simp only[aop,d7k,cond_eq_ite]at ha
  repeat' split at ha
  all_goals cases ha
  simp[Eff.fresh]at he
 case box t y=>
  simp only[aop,d7w,cond_eq_ite]at ha
  repeat' split at ha
  all_goals cases ha
  all_goals simp[Eff.fresh]at he
 case buildSlice=>
  simp only[aop,a2r,cond_eq_ite]at ha
  repeat' split at ha
  all_goals cases ha
  all_goals simp[Eff.fresh]at he
 case makeMap=>
  simp only[aop]at ha
  repeat' split at ha
  all_goals cases ha
  all_goals simp[Eff.fresh]at he
 case makeSlice=>
  simp only[aop,a3j,cond_eq_ite]at ha
  repeat' split at ha
  all_goals cases ha
  all_goals simp[Eff.fresh]at he
 case range=>
  simp only[aop]at ha;rcases a8f ha with ha|ha
  ·simp only[c2k]at ha
   repeat' split at ha
   all_goals cases ha
   all_goals simp[Eff.fresh]at he
  ·simp only[b70,cond_eq_ite]at ha
   repeat' split at ha
   all_goals cases ha
   all_goals simp[Eff.fresh]at he
 case call c=>
  obtain⟨callee,args,ts⟩:=c;cases callee with
  |builtin b=>exact blt _ _ _ ha
  |_=>cases ha
 all_goals exact ha
structure Rec where
 dst:Option Nat
 v:AV
 ov:Nat→Option (Option AObj)
 fresh:Nat
 log:LogE
def fov(r:Rec)(s:Nat):Option AV:=if r.dst=some s then some r.v else none
def hov(r:Rec)(b:Nat):Option (Option AObj):=r.ov b
def cnt(m0:Nat):List Rec→Nat
 | []=>m0
 |r::ai=>cnt m0 ai+r.fresh
def c3t(m0:Nat)(S:Nat→Bool):List Rec→Nat→Prop
 | [],_=>False
 |r::ai,b=>(S ai.length=true∧cnt m0 ai≤b∧b<cnt m0 ai+r.fresh)∨c3t m0 S ai b
theorem c01{m0:Nat}{S:Nat→Bool}:∀{l:List Rec} {b:Nat},c3t m0 S l b→b<cnt m0 l
 | [],b,h=>h.elim
 |r::ai,b,h=>by
  simp only[cnt];rcases h with ⟨_,_,h⟩|h
  ·exact h
  ·have:=c01 h;omega
theorem c8m{m0:Nat}{i:Nat}{r:Rec}:∀{l:List Rec},nth l i=some r→cnt m0 (pre l i)+r.fresh≤cnt m0 l
 | [],h=>by simp[nth]at h
 |a::ai,h=>by
  unfold nth at h;simp only[pre,cnt];split at h
  ·rename_i hi;cases h;rw[e6q hi];omega
  ·rename_i hi;have:=c8m (m0:=m0) h;rw[e5s hi];omega
theorem c6w{m0:Nat}{S:Nat→Bool}{i:Nat}{r:Rec}{b:Nat}:∀{l:List Rec},nth l i=some r→cnt m0 (pre l i)≤b→b<cnt m0 (pre l i)+r.fresh→c3t m0 S l b→S i=true
 | [],h,_,_,_=>by simp[nth]at h
 |a::ai,h,h1,h2,hm=>by
  unfold nth at h;split at h
  ·rename_i hi;cases h;simp only[pre,e6q hi]at h1 h2;rcases hm with ⟨hS,_⟩|hm
   ·rw[hi];exact hS
   ·have:=c01 hm;omega
  ·rename_i hi;simp only[pre,e5s hi]at h1 h2;have:=c8m (m0:=m0) h;rcases hm with ⟨_,pG,_⟩|hm
   ·omega
   ·exact c6w h h1 h2 hm
theorem b81{m0:Nat}{S:Nat→Bool}{i:Nat}{r:Rec}{b:Nat}:∀{l:List Rec},nth l i=some r→(c3t m0 S l b∨(cnt m0 (pre l i)≤b∧b<cnt m0 (pre l i)+r.fresh))→c3t m0 (b7w S i) l b
 | [],h,_=>by simp[nth]at h
 |a::ai,h,hb=>by
  have mono:∀{l:List Rec},c3t m0 S l b→c3t m0 (b7w S i) l b:=by
   intro l
   induction l with
   |nil=>exact λh=>h
   |cons a ai ih=>exact λh=>h.imp (λ⟨h1,h2⟩=>⟨by simp[b7w,h1],h2⟩) ih
  unfold nth at h;rcases hb with hb|⟨cf,dF⟩
  ·exact mono hb
  ·split at h
   ·rename_i hi;cases h;simp only[pre,e6q hi]at cf dF;exact .inl ⟨by simp[b7w,hi],cf,dF⟩
   ·rename_i hi;simp only[pre,e5s hi]at cf dF;exact .inr (b81 h (.inr ⟨cf,dF⟩))
structure DNow(E:Env)(e:Entry)(N m0:Nat)(C:Nat→Prop)(f:Nat→AV)(h:FHeap)(I:Nat→Prop)(ρ:PMap)(a:Act)(w:World):Prop where
 imm:∀c,e.I c→I c
 map:∀b,b<e.m→ρ b=e.ρ b
 ext:Ext e.I e.K e.w w
 rel:HRel E.G I e.K ρ h w
 nrel:∀b,m0≤b→¬C b→ρ b=none
 fin:∃M,NRel ρ M
 size:a.tmps.size=N
 frm:∀s,VRel I w ρ (f s) (a.tmps.getD s undef)
 marks:Marks e I w a.defers
def opvf(E:Env)(f:Nat→AV):Operand→AV
 |.tmp t=>f t
 |.const v=>c2b v
 |.global g=>match E.G g with|some cs=>.iptr cs|none=>.junk
 |.func f=>.func (.func f) [] []
section
variable {E:Env}{e:Entry}{N m0:Nat}{C:Nat→Prop}{f:Nat→AV}{h:FHeap}{I:Nat→Prop}{ρ:PMap}{a:Act}{w:World}
theorem DNow.opvf(d:DNow E e N m0 C f h I ρ a w)(x:Operand):VRel I w ρ (opvf E f x) (a.eval x):=by
 cases x with
 |tmp t=>exact d.frm t
 |const v=>exact b8l v
 |global g=>
  simp only[Ax.opvf,Act.eval];cases hg:E.G g with
  |none=>simp[VRel]
  |some cs=>obtain⟨h1,h2⟩:=d.rel.glob g cs hg;simp only[VRel];exact⟨g,0,rfl,h1,h2⟩
 |func f=>simp only[Ax.opvf,Act.eval,VRel];exact⟨#[],#[],rfl,by simp[VRels],by simp[VRels]⟩
theorem c3s{t:Nat}{l:List Operand}(h:Operand.tmp t∈l):t∈b0c l:=by simp only[b0c,List.mem_filterMap];exact⟨_,h,rfl⟩
theorem b22{F:Frm}{l:List Operand}(hf:∀s∈b0c l,f s=a2n F s):∀x∈l,opv E F x=opvf E f x:=by
 intro x hx;cases x with
 |tmp t=>exact(hf t (c3s hx)).symm
 |_=>rfl
theorem a9s{I':Nat→Prop}{w':World}{ρ':PMap}(hv:∀(v:AV) (c:Value),VRel I w ρ v c→VRel I' w' ρ' v c)(bu:a.tmps.size=N)(hf:∀s,VRel I w ρ (f s) (a.tmps.getD s undef)){d:Option Nat}
 (hd:a60 N d=true){v:AV}{c:Value}(hc:VRel I' w' ρ' v c):∀s,VRel I' w' ρ' ((if d=some s then some v else none).getD (f s)) ((a.put d c).tmps.getD s undef):=by
 intro s;cases d with
 |none=>simpa[Act.put]using hv _ _ (hf s)
 |some d=>
  have ak:d<N:=by simpa[a60,e6u]using hd
  simp only[Act.put,e6y,e7i,bu,Option.some.injEq];split
  ·subst s;simpa[ak]using hc
  ·have:=hv _ _ (hf s);simpa[e6y]using this
theorem a7s{d:Option Nat}{c:Value}:(a.put d c).tmps.size=a.tmps.size:=by cases d<;>simp[Act.put]
def c4x(n:Nat):Eff→Nat→Option (Option AObj)
 |.none,_=>none
 |.new o,b=>if b=n then some (some o)else none
 |.set b0 o,b=>if b=b0 then some (some o)else none
 |.kill b0 o,b=>if b=n then some (some o)else if b=b0 then some none else none
theorem e1c(h:FHeap)(n:Nat)(e:Eff):h.eff n e=λb=>(c4x n e b).getD (h b):=by
 funext b
 cases e<;>simp only[FHeap.eff,FHeap.set,c4x]
 ·rfl
 ·split<;>rfl
 ·split<;>rfl
 ·split
  ·rfl
  ·split<;>rfl
theorem d74{H:a02}{e:Eff}(hf:e.fits H.length=true):a01 (b06 H e)=λb=>(c4x H.length e b).getD (a01 H b):=by
 funext b
 cases e with
 |none=>rfl
 |new o=>
  simp only[b06,a01,c4x];split
  ·subst b;simp
  ·rcases e84 b H.length with h1|h1
   ·rw[e6j h1];rfl
   ·rw[e6n (by simp;omega),e6n (by omega)];rfl
 |set b1 o=>
  have cf:b1<H.length:=by simpa[Eff.fits,e6u]using hf
  simp only[b06,a01,c4x,e70];split
  ·subst b;simp[cf]
  ·rename_i az;rw[e5s (λe=>az e.symm)];rfl
 |kill b1 o=>
  have cf:b1<H.length:=by simpa[Eff.fits,e6u]using hf
  simp only[b06,a01,c4x];split
  ·subst b;rw[e6p (by simp)];simp
  ·rcases e84 b H.length with h1|h1
   ·rw[e6j (by simpa using h1),e70];split
    ·rename_i az;subst az;simp[cf]
    ·rename_i az fF;rw[e5s (λe=>fF e.symm)];rfl
   ·rw[e6n (by simp;omega),e5s (by omega),e6n h1];rfl
theorem c6g{n b:Nat}{e:Eff}(h:(c4x n e b).isSome=true):b∈e.keys n:=by
 cases e<;>simp only[c4x]at h
 ·simp at h
 ·split at h
  ·subst b;simp[Eff.keys]
  ·simp at h
 ·split at h
  ·subst b;simp[Eff.keys]
  ·simp at h
 ·split at h
  ·subst b;simp[Eff.keys]
  ·split at h
   ·subst b;simp[Eff.keys]
   ·simp at h
end
end Go.Ax
/- AxDraw2: one operation of a region that draws its order. -/
namespace Go.Ax
section
variable {E:Env}{e:Entry}{N m0:Nat}
theorem b0d{hp eI:FHeap}{σ:List Nat}(h:∀b∈σ,hp b=eI b):a54 hp σ=a54 eI σ:=by unfold a54;exact e7k λb hb=>by rw[h b hb]
def b79(E:Env)(ro:Option Nat)(e:Entry)(N m0 n:Nat)(o:Oper)(fp:Nat→AV)(hp:FHeap)(v:AV)(ov:Nat→Option (Option AObj))(fresh:Nat)(l:LogE):Prop:=
 ∀{C:Nat→Prop} {f:Nat→AV} {h:FHeap} {I:Nat→Prop} {ρ:PMap} {a:Act} {w:World},DNow E e N m0 C f h I ρ a w→(∀s∈b0c o.op.operands.toList,f s=fp s)→(∀b∈l.needs,h b=hp b)→(∀b,n≤b→b<n+fresh→¬C b)→
  ∀{K:Act→World→Prop} {Q:Exit→Act→World→Prop},(∀I' ρ' a' w',DNow E e N m0 (λb=>C b∨(n≤b∧b<n+fresh)) (λs=>((if o.dst=some s then some v else none).getD (f s))) (λb=>(ov b).getD (h b)) I' ρ' a' w'→K a' w')→
   o.wpIn (wf ro) 0 E.P a w K Q
def Eff.nf(e:Eff):Nat:=if e.fresh=true then 1 else 0
theorem d35(ok:EnvOk E){ro:Option Nat}{F:Frm}{H:a02}{o:Oper}{v:AV}{eff:Eff}(b4:e.m≤m0)(bR:m0≤H.length)(hd:a60 N o.dst=true)(ha:aop E H.length (a01 H) o.op (opv E F)=some (v,eff)) :
 b79 E ro e N m0 H.length o (a2n F) (a01 H) v (c4x H.length eff) eff.nf ⟨a7l o.op (opv E F),eff.keys H.length⟩:=by
 intro C f h I ρ a w af hf hh hC K Q hK;have cW:=b22 (E:=E) hf;have lj:∀x∈o.op.operands,opv E F x=opvf E f x:=λx hx=>cW x (by simpa using hx);have kA:aop E H.length h o.op (opvf E f)=some (v,eff):=by rw[←c94 lj,c93 (h':=a01 H) hh];exact ha
 obtain⟨M,hM⟩:=af.fin;obtain⟨n',bF,hρ',l6⟩:∃n',(eff.fresh=true→n'=H.length)∧ρ n'=none∧aop E n' h o.op (opvf E f)=some (v,eff):=by
  cases dc:eff.fresh with
  |true=>exact⟨H.length,λ_=>rfl,af.nrel _ bR (hC _ (e6o _) (by simp[Eff.nf,dc])),kA⟩
  |false=>exact⟨M,(by simp),hM _ (e6o _),c92 kA dc⟩
 have cO:h n'=none:=by
  cases hx:h n' with
  |none=>rfl
  |some ob=>obtain⟨m,h1,_⟩:=af.rel.live _ _ hx;rw[hρ']at h1;cases h1
 obtain⟨x,w',c,ρ',ae,hx,step,hv,hm⟩:=d4k ok af.rel cO hρ' l6 af.opvf;have hov:h.eff n' eff=λb=>(c4x H.length eff b).getD (h b):=by
  rw[e1c];cases dc:eff.fresh with
  |true=>rw[bF dc]
  |false=>cases eff<;>simp[Eff.fresh]at dc<;>rfl
 have eZ:∀b,(eff.fresh=true→b≠H.length)→ρ' b=ρ b:=by
  intro b hb;cases dc:eff.fresh with
  |true=>exact hm.1 b (by rw[bF dc];exact hb dc)
  |false=>rw[hm.2 dc]
 have aO:DNow E e N m0 (λb=>C b∨(H.length≤b∧b<H.length+eff.nf)) (λs=>((if o.dst=some s then some v else none).getD (f s))) (λb=>(c4x H.length eff b).getD (h b)) I ρ' (a.put o.dst c) w':=by
  refine⟨af.imm,λb hb=>?_,af.ext.trans af.imm step.ext,hov▸step.rel,λb hb hc=>?_,⟨max M (H.length+1),λb hb=>?_⟩,by rw[a7s];exact af.size,?_,by rw[a2k];exact af.marks.mono (λ_ h=>h) (λc hc=>step.ext.keep c (.inl hc))⟩
  ·rw[eZ b (λ_=>by omega)];exact af.map b hb
  ·rw[eZ b (λhf he=>hc (.inr (by simp only[Eff.nf,hf,e8f];omega)))];exact af.nrel b hb (λh=>hc (.inl h))
  ·rw[eZ b (λ_=>by omega)];exact hM b (by omega)
  ·exact a9s (λv c hv=>step.vrel hv) af.size af.frm hd hv
 refine a6v (b3f ha) ?_;rw[ae];rcases hx with rfl|⟨rfl,rfl⟩
 ·rw[Oper.uponIn_value];exact hK I ρ' _ _ aO
 ·rw[Oper.uponIn_skip];exact hK I ρ' _ _ aO
theorem c8t{g:FuncId}{run:List AV→a02→Option (AV×a02)}(ae:a9i E g run){args:List AV}{H H':a02}{v:AV}{σ:List Nat}
 (ag:a27 run args H=some (v,H',σ))(aj:H'.length=H.length) :
 ∃ov:Nat→Option (Option AObj),(a01 H'=λb=>(ov b).getD (a01 H b))∧(∀b,(ov b).isSome=true→b∈σ)∧
  ∀{I K:Nat→Prop} {ρ:PMap} {h:FHeap} {w:World} {am:List Value},HRel E.G I K ρ h w→(∀b∈σ,h b=a01 H b)→VRels I w ρ args am→
   XOf E g am w λen w'=>∃c I',en = .returned c∧(∀c,I c→I' c)∧Ext I K w w'∧HRel E.G I' K ρ (λb=>(ov b).getD (h b)) w'∧VRel I' w' ρ v c:=by
 unfold a27 at ag;simp only at ag;generalize hσ:a1i H a2p (a0a args) []=σ' at ag;rw[cond_eq_ite]at ag;split at ag
 case isFalse=>cases ag
 rename_i hc;simp only[c11,e6x,e6u]at hc;obtain⟨bz,ak⟩:=hc;have bz:=a7u bz;split at ag
 case h_2=>cases ag
 rename_i v1 H1 hr;simp only[Option.some.injEq,Prod.mk.injEq]at ag;obtain⟨rfl,rfl,rfl⟩:=ag;have gm:run (args.map (ren (a8e σ'))) (a54 (a01 H) σ')=some (v1,H1):=hr;have mV:H1.length≤σ'.length:=by simp only[e6k,a0x,c10,List.length_drop]at aj;omega
 refine⟨λb=>(σ'.idxOf? b).map λj=>(a01 H1 j).map (a0d (a1f σ' H.length)),?_,?_,?_⟩
 ·funext b
  simp only[a01];rcases e84 b H.length with hb|hb
  ·rw[e6j (by rw[a0x];exact hb),a6d];simp only[e7l];rw[z9e hb];cases hx:σ'.idxOf? b<;>simp[a01]
  ·rw[e6n (by simp only[e6k,a0x,c10,List.length_drop];omega),e6n hb];cases hx:σ'.idxOf? b with
   |none=>rfl
   |some j=>have:=ak b (e12 (a1w hx));omega
 ·intro b hb;dsimp only at hb;cases hx:σ'.idxOf? b with
  |none=>rw[hx]at hb;simp at hb
  |some j=>exact e12 (a1w hx)
 ·intro I K ρ h w am rel hh ha;have eW:run (args.map (ren (a8e σ'))) (a54 h σ')=some (v1,H1):=by rw[b0d hh];exact gm
  refine XOf.mono (b6w ae eW rel bz ha) ?_
  rintro en w' ⟨c,I1,ρ1,rfl,aA,hv⟩
  have bG:∀j b m,a1f σ' H.length j=some b→ρ1 j=some m→ρ b=some m:=by
   intro j b m hj hm;rcases e84 j σ'.length with bg|bg
   ·simp only[a1f]at hj;rw[cond_eq_ite,e6q (by simpa[e6u]using bg)]at hj;have:=aA.map j bg;rw[hm,hj]at this;exact this.symm
   ·rw[aA.nrel j (by omega)]at hm;cases hm
  refine⟨c,I1,rfl,aA.imm,aA.ext.keepLess (λc hc=>.inl hc),?_,VRel.ren bG v1 hv⟩;refine b6y rel bz aA (λ_ _ h=>h) bG (λb m hb=>.inl hb) ?_;intro b o hb;dsimp only at hb;cases hx:σ'.idxOf? b with
  |none=>rw[hx]at hb;exact .inl ⟨a9x hx,hb⟩
  |some j=>rw[hx]at hb;simp only[e5p,e7v]at hb;obtain⟨o1,dk,rfl⟩:=a05 hb;have hσj:=a1w hx;refine .inr ⟨j,o1,?_,dk,rfl⟩;simp only[a1f];rw[cond_eq_ite,e6q (by simpa[e6u]using(e5k.1 hσj).1)];exact hσj
theorem d2x{g:FuncId}{run:List AV→a02→Option (AV×a02)}(ae:a9i E g run){args:List AV}{H H':a02}{v:AV}{σ:List Nat}
 (ag:a27 run args H=some (v,H',σ)){q:Nat}(aj:H'.length=H.length+q) :
 ∃ov:Nat→Option (Option AObj),(a01 H'=λb=>(ov b).getD (a01 H b))∧(∀b,(ov b).isSome=true→b∈σ++List.range' H.length q)∧
  ∀{I K:Nat→Prop} {ρ:PMap} {h:FHeap} {w:World} {am:List Value},HRel E.G I K ρ h w→(∀b,H.length≤b→b<H.length+q→ρ b=none)→(∀b∈σ,h b=a01 H b)→VRels I w ρ args am→
   XOf E g am w λen w'=>∃c I' ρ',en = .returned c∧(∀c,I c→I' c)∧Ext I K w w'∧(∀b,¬(H.length≤b∧b<H.length+q)→ρ' b=ρ b)∧HRel E.G I' K ρ' (λb=>(ov b).getD (h b)) w'∧VRel I' w' ρ' v c:=by
 unfold a27 at ag;simp only at ag;generalize hσ:a1i H a2p (a0a args) []=σ' at ag;rw[cond_eq_ite]at ag;split at ag
 case isFalse=>cases ag
 rename_i hc;simp only[c11,e6x,e6u]at hc;obtain⟨bz,ak⟩:=hc;have bz:=a7u bz;split at ag
 case h_2=>cases ag
 rename_i v1 H1 hr;simp only[Option.some.injEq,Prod.mk.injEq]at ag;obtain⟨rfl,rfl,rfl⟩:=ag;have gm:run (args.map (ren (a8e σ'))) (a54 (a01 H) σ')=some (v1,H1):=hr;have mV:H1.length-σ'.length=q:=by simp only[e6k,a0x,c10,List.length_drop]at aj;omega
 refine⟨λb=>if H.length≤b∧b<H.length+q then some ((a01 H1 (σ'.length+(b-H.length))).map (a0d (a1f σ' H.length)))else(σ'.idxOf? b).map λj=>(a01 H1 j).map (a0d (a1f σ' H.length)),?_,?_,?_⟩
 ·funext b
  simp only[a01];rcases e84 b H.length with hb|hb
  ·rw[e6j (by rw[a0x];exact hb),a6d,e5s (by omega)];simp only[e7l];rw[z9e hb];cases hx:σ'.idxOf? b<;>simp[a01]
  ·rw[e6p (by rw[a0x];exact hb),a0x,e5n,List.getElem?_drop];by_cases he:b<H.length+q
   ·rw[e6q ⟨hb,he⟩];cases hx:H1[σ'.length+(b-H.length)]? with
    |none=>simp[hx]
    |some ob=>simp[hx]
   ·rw[e5s (by omega),e6n (by omega),e6n hb];cases hx:σ'.idxOf? b with
    |none=>rfl
    |some j=>have:=ak b (e12 (a1w hx));omega
 ·intro b hb;dsimp only at hb;by_cases he:H.length≤b∧b<H.length+q
  ·exact List.mem_append_right _ (by rw[List.mem_range'_1];exact he)
  ·rw[e5s he]at hb;cases hx:σ'.idxOf? b with
   |none=>rw[hx]at hb;simp at hb
   |some j=>exact List.mem_append_left _ (e12 (a1w hx))
 ·intro I K ρ h w am rel hn hh ha;have eW:run (args.map (ren (a8e σ'))) (a54 h σ')=some (v1,H1):=by rw[b0d hh];exact gm
  refine XOf.mono (b6w ae eW rel bz ha) ?_
  rintro en w' ⟨c,I1,ρ1,rfl,aA,hv⟩
  have b4:=aA.low;have bG:∀j b m,a1f σ' H.length j=some b→ρ1 j=some m→(if H.length≤b∧b<H.length+q then ρ1 (σ'.length+(b-H.length))else ρ b)=some m:=by
   intro j b m hj hm;simp only[a1f]at hj;rw[cond_eq_ite]at hj;split at hj
   ·rename_i bg;have bg:j<σ'.length:=by simpa[e6u]using bg
    have hb:=ak b (e12 hj);rw[e5s (by omega)];have:=aA.map j bg;rw[hm,hj]at this;exact this.symm
   ·rename_i bg;have bg:σ'.length≤j:=by simpa[e6u]using bg
    cases hj;by_cases he:j-σ'.length<q
    ·rw[e6q (by omega),show σ'.length+(H.length+(j-σ'.length)-H.length)=j by omega];exact hm
    ·rw[aA.nrel j (by omega)]at hm;cases hm
  have aJ:∀b m,ρ b=some m→(if H.length≤b∧b<H.length+q then ρ1 (σ'.length+(b-H.length))else ρ b)=some m:=by intro b m hb;rw[e5s (λe=>by rw[hn b e.1 e.2]at hb;cases hb)];exact hb
  refine⟨c,I1,λb=>if H.length≤b∧b<H.length+q then ρ1 (σ'.length+(b-H.length))else ρ b,rfl,aA.imm,aA.ext.keepLess (λc hc=>.inl hc),λb hb=>e5s hb,?_,VRel.ren bG v1 hv⟩;refine b6y rel bz aA aJ bG ?_ ?_
  ·intro b m hb;split at hb
   ·exact .inr ⟨_,hb⟩
   ·exact .inl hb
  intro b o hb;dsimp only at hb;by_cases he:H.length≤b∧b<H.length+q
  ·rw[e6q he,e7v]at hb;obtain⟨o1,dk,rfl⟩:=a05 hb;refine .inr ⟨σ'.length+(b-H.length),o1,?_,dk,rfl⟩;simp only[a1f];rw[cond_eq_ite,e5s (by simp[e6u])]
   congr 1;omega
  rw[e5s he]at hb;cases hx:σ'.idxOf? b with
  |none=>rw[hx]at hb;exact .inl ⟨a9x hx,hb⟩
  |some j=>rw[hx]at hb;simp only[e5p,e7v]at hb;obtain⟨o1,dk,rfl⟩:=a05 hb;have hσj:=a1w hx;refine .inr ⟨j,o1,?_,dk,rfl⟩;simp only[a1f];rw[cond_eq_ite,e6q (by simpa[e6u]using(e5k.1 hσj).1)];exact hσj
theorem c5o(ok:EnvOk E){ro:Option Nat}{call:FuncId→List AV→a02→Option (AV×a02)}(ag:a3e E call){F:Frm}{H H':a02}{o:Oper}{v:AV}{l:LogE}(b4:e.m≤m0)(bR:m0≤H.length)
 (hs:a0n E true call F H o.op=some (v,H',l))(hd:a60 N o.dst=true) :
 ∃ov fresh,(a01 H'=λb=>(ov b).getD (a01 H b))∧H'.length=H.length+fresh∧(∀b,(ov b).isSome=true→b∈l.keys)∧b79 E ro e N m0 H.length o (a2n F) (a01 H) v ov fresh l:=by
 unfold a0n at hs;split at hs
 ·rename_i f args mn cX;split at hs
  case h_2=>cases hs
  rename_i v' H1 σ aQ;cases hs
  -- what is called,in whatever state
  have tail:∀(g:FuncId) (as:List AV),a27 (call g) as H=some (v,H',σ)→(H.length≤H'.length)→(a5s E (opv E F f) H H' σ=true→∀b∈σ,a01 H b=a01 H' b)→
   (∀{C:Nat→Prop} {f':Nat→AV} {h:FHeap} {I:Nat→Prop} {ρ:PMap} {a:Act} {w:World},DNow E e N m0 C f' h I ρ a w→(∀s∈b0c o.op.operands.toList,f' s=a2n F s)→
    ∃am,VRels I w ρ as am∧∀{R:Ending→World→Prop},XOf E g am w R→∀{K:Act→World→Prop} {Q:Exit→Act→World→Prop},(∀en w',R en w'→∃c,en = .returned c∧K (a.put o.dst c) w')→o.wpIn (wf ro) 0 E.P a w K Q)→
   ∃ov fresh,(a01 H'=λb=>(ov b).getD (a01 H b))∧H'.length=H.length+fresh∧(∀b,(ov b).isSome=true→b∈b3o (a5s E (opv E F f) H H' σ) σ H.length H'.length)∧
    b79 E ro e N m0 H.length o (a2n F) (a01 H) v ov fresh ⟨σ,b3o (a5s E (opv E F f) H H' σ) σ H.length H'.length⟩:=by
   intro g as di aj nv T;by_cases aO:H'.length≠H.length
   ·have hq:H'.length=H.length+(H'.length-H.length):=by omega
    generalize H'.length-H.length=q at hq;have hk:b3o (a5s E (opv E F f) H H' σ) σ H.length H'.length=σ++List.range' H.length q:=by unfold b3o;rw[cond_eq_ite,e5s (by rw[f08];omega),show H'.length-H.length=q by omega]
    obtain⟨ov,h1,h2,h3⟩:=d2x (ag g) di hq;refine⟨ov,q,h1,hq,by rw[hk];exact h2,?_⟩;intro C f' h I ρ a w af hf hh hC K Q hK;obtain⟨am,aG,tr⟩:=T af hf;have cO:∀b,H.length≤b→b<H.length+q→ρ b=none:=λb h1 h2=>af.nrel b (by omega) (hC b h1 h2);refine tr (h3 af.rel cO hh aG) ?_
    rintro en w' ⟨c,I',ρ',rfl,hI,bK,hρ',bo,bU⟩
    refine⟨c,rfl,?_⟩;obtain⟨M,hM⟩:=af.fin;have aJ:∀b m,ρ b=some m→ρ' b=some m:=by intro b m hb;rw[hρ' b (λe=>by rw[cO b e.1 e.2]at hb;cases hb)];exact hb
    refine hK I' ρ' _ _ ⟨λc hc=>hI c (af.imm c hc),λb hb=>?_,af.ext.trans af.imm bK,bo,λb hb hc=>?_,⟨max M (H.length+q),λb hb=>?_⟩,by rw[a7s];exact af.size,?_,by rw[a2k];exact af.marks.mono hI (λc hc=>bK.keep c (.inl hc))⟩
    ·rw[hρ' b (by omega)];exact af.map b hb
    ·rw[hρ' b (λe=>hc (.inr e))];exact af.nrel b hb (λh=>hc (.inl h))
    ·rw[hρ' b (by omega)];exact hM b (by omega)
    ·exact a9s (λv c hv=>VRel.mono hI (λc hc=>bK.keep c (.inl hc)) v aJ hv) af.size af.frm hd bU
   have aj:H'.length=H.length:=Classical.not_not.1 aO;have hk:b3o (a5s E (opv E F f) H H' σ) σ H.length H'.length=(bif a5s E (opv E F f) H H' σ then[]else σ):=by unfold b3o;rw[aj,cond_eq_ite,e6q (by rw[f08])]
   rw[hk];obtain⟨ov,h1,h2,h3⟩:=c8t (ag g) di aj;obtain⟨ov,h1,h2,h3⟩:∃ov:Nat→Option (Option AObj),(a01 H'=λb=>(ov b).getD (a01 H b))∧(∀b,(ov b).isSome=true→b∈(bif a5s E (opv E F f) H H' σ then[]else σ))∧
    ∀{I K:Nat→Prop} {ρ:PMap} {h:FHeap} {w:World} {am:List Value},HRel E.G I K ρ h w→(∀b∈σ,h b=a01 H b)→VRels I w ρ as am→
     XOf E g am w λen w'=>∃c I',en = .returned c∧(∀c,I c→I' c)∧Ext I K w w'∧HRel E.G I' K ρ (λb=>(ov b).getD (h b)) w'∧VRel I' w' ρ v c:=by
    cases jA:a5s E (opv E F f) H H' σ with
    |false=>exact⟨ov,h1,h2,h3⟩
    |true=>
     have bE:∀b∈σ,a01 H b=a01 H' b:=nv jA;have cP:∀b x,ov b=some x→x=a01 H b:=by intro b x hx;have e1:=bE b (h2 b (by rw[hx];rfl));rw[h1]at e1;simp only[hx,e7v]at e1;exact e1.symm
     refine⟨λ_=>none,?_,λb hb=>by simp at hb,?_⟩
     ·rw[h1];funext b
      cases hx:ov b with
      |none=>rfl
      |some x=>simp only[e7v,Option.getD_none];exact cP b x hx
     ·intro I K ρ h w am bo hh ha;have e:(λb=>(ov b).getD (h b))=h:=by
       funext b
       cases hx:ov b with
       |none=>rfl
       |some x=>simp only[e7v];rw[cP b x hx,hh b (h2 b (by rw[hx];rfl))]
      refine XOf.mono (h3 bo hh ha) ?_
      rintro en w' ⟨c,I',r1,r2,r3,r4,r5⟩
      rw[e]at r4;exact⟨c,I',r1,r2,r3,by simpa using r4,r5⟩
   refine⟨ov,0,h1,aj,h2,?_⟩;intro C f' h I ρ a w af hf hh hC K Q hK;obtain⟨am,aG,tr⟩:=T af hf;refine tr (h3 af.rel hh aG) ?_
   rintro en w' ⟨c,I',rfl,hI,bK,bo,bU⟩
   refine⟨c,rfl,?_⟩;refine hK I' ρ _ _ ⟨λc hc=>hI c (af.imm c hc),af.map,af.ext.trans af.imm bK,bo,λb hb hc=>af.nrel b hb (λh=>hc (.inl h)),af.fin,by rw[a7s];exact af.size,?_,by rw[a2k];exact af.marks.mono hI (λc hc=>bK.keep c (.inl hc))⟩;exact a9s (λv c hv=>VRel.mono hI (λc hc=>bK.keep c (.inl hc)) v (λ_ _ h=>h) hv) af.size af.frm hd bU
  have kN:¬((true && !(Nat.ble H.length H'.length))=true)→H.length≤H'.length:=by intro h;simpa only[e8p,e7z,Bool.not_eq_false,e8m]using h
  unfold a09 at aQ;split at aQ
  case h_3=>cases aQ
  case h_2=>
   rename_i b gB;split at aQ
   case h_2=>cases aQ
   rename_i kE H2 σ2 di;rw[cond_eq_ite]at aQ;split at aQ
   case isTrue=>cases aQ
   rename_i aj;cases aQ;refine tail yId _ di (kN aj) (λh=>by rw[gB]at h;simp[a5s]at h) ?_;intro C f' h I ρ a w af hf;have cW:=b22 (E:=E) hf;rw[cX]at cW;have iw:=af.opvf f;rw[←cW f (by simp[Op.operands,Call.operands]),gB]at iw;simp only[VRel]at iw;obtain⟨m,hm,e8⟩:=iw;have aG:args.toList.map (opv E F)=args.toList.map (opvf E f'):=e7k λx hx=>cW x (by simp[Op.operands,Call.operands];exact .inr (by simpa using hx));refine⟨.func (.yield m.blk) #[] #[]::(args.map a.eval).toList,?_,?_⟩
   ·simp only[VRels];refine⟨_,_,rfl,by simp only[VRel];exact⟨m,hm,rfl⟩,?_⟩;rw[e8w,aG];exact a4b af.opvf args.toList
   ·intro R hc K Q hK;rw[d80]at hc;obtain⟨l,vs,fn,tmps,asg,body,he,hy,hr⟩:=hc;simp only[List.cons.injEq,Value.func.injEq,Fn.yield.injEq,and_true]at he;obtain⟨hl,rfl⟩:=he;have bh:(args.map a.eval).toList.toArray=args.map a.eval:=by apply e9w;simp
    rw[bh]at hy;refine a6v (by rw[cX];intro c hc;cases hc) ?_;rw[b54 cX e8,hl,hy];refine b42 (hr.mono ?_);intro en w' hR;obtain⟨c,rfl,hk⟩:=hK en w' hR;exact hk
  rename_i g fs cs gB
  -- the operands in another state
  have gO:∀{C:Nat→Prop} {f':Nat→AV} {h:FHeap} {I:Nat→Prop} {ρ:PMap} {a:Act} {w:World},DNow E e N m0 C f' h I ρ a w→(∀s∈b0c o.op.operands.toList,f' s=a2n F s)→
   ∃bT aF,a.eval f = .func (.func g) bT aF∧VRels I w ρ (fs++args.toList.map (opv E F)++cs) (bT++args.map a.eval++aF).toList:=by
   intro C f' h I ρ a w af hf;have cW:=b22 (E:=E) hf;rw[cX]at cW;have iw:=af.opvf f;rw[←cW f (by simp[Op.operands,Call.operands]),gB]at iw;simp only[VRel]at iw;obtain⟨bT,aF,e8,iv,cM⟩:=iw;have aG:args.toList.map (opv E F)=args.toList.map (opvf E f'):=e7k λx hx=>cW x (by simp[Op.operands,Call.operands];exact .inr (by simpa using hx));refine⟨bT,aF,e8,?_⟩;simp only[Array.toList_append,e8w];rw[aG];exact VRels.append (VRels.append iv (a4b af.opvf args.toList)) cM
  rw[cond_eq_ite]at aQ;split at aQ
  ·rename_i bK;rw[cond_eq_ite]at aQ;split at aQ
   ·rename_i hg;obtain⟨hH,hσ,aq,v0,H1,e1,e2,e3,e4⟩:=b2e aQ;subst hH;refine⟨λ_=>none,0,rfl,rfl,by simp,?_⟩;intro C f' h I ρ a w af hf hh hC K Q hK;obtain⟨bT,aF,e8,aG⟩:=gO af hf;have be:∀b o,a01 H' b=some o→h b=some o:=by
     intro b o hb;have ak:b<H'.length:=by
      rcases e84 b H'.length with h'|h'
      ·exact h'
      ·simp[a01,e6n h']at hb
     rw[hh b (by rw[hσ];exact e8y.2 ak)];exact hb
    have hc:=b84 (ag g) be af.rel aG e1 e2 e3 e4;obtain⟨i,hi⟩:=e4v.1 hg;rw[b3i (c45 ok hi)]at hc;have bh:(bT++args.map a.eval++aF).toList.toArray=bT++args.map a.eval++aF:=by apply e9w;simp
    rw[bh]at hc;refine a6v (by rw[cX];intro c hc;cases hc) ?_;rw[a96 cX e8,a39 ok hg];refine a7n (Calls.mono hc ?_)
    rintro en w' ⟨c,I',rfl,hI,gD,bo,bU⟩
    refine hK I' ρ _ _ ⟨λc hc=>hI c (af.imm c hc),af.map,af.ext.trans af.imm gD,bo,λb hb hc=>af.nrel b hb (λh=>hc (.inl h)),af.fin,by rw[a7s];exact af.size,?_,by rw[a2k];exact af.marks.mono hI (λc hc=>gD.keep c (.inl hc))⟩;exact a9s (λv c hv=>VRel.mono hI (λc hc=>gD.keep c (.inl hc)) v (λ_ _ h=>h) hv) af.size af.frm hd bU
   rename_i bN;split at aQ
   case h_2=>cases aQ
   rename_i kE js;cases aQ;refine⟨λ_=>none,0,rfl,rfl,by simp,?_⟩;intro C f' h I ρ a w af hf hh hC K Q hK;obtain⟨bT,aF,e8,aG⟩:=gO af hf;obtain⟨c,ae,bU⟩:=b0r (E:=E) (w:=w) ok bK (by simpa using bN) js aG;have bh:(bT++args.map a.eval++aF).toList.toArray=bT++args.map a.eval++aF:=by apply e9w;simp
   rw[bh]at ae;refine a6v (by rw[cX];intro c hc;cases hc) ?_;rw[a96 cX e8,ae,Oper.uponIn_value];refine hK I ρ _ _ ⟨af.imm,af.map,af.ext,af.rel,λb hb hc=>af.nrel b hb (λh=>hc (.inl h)),af.fin,by rw[a7s];exact af.size,?_,by rw[a2k];exact af.marks⟩;exact a9s (λ_ _ h=>h) af.size af.frm hd bU
  ·rw[cond_eq_ite]at aQ;split at aQ
   case isFalse=>cases aQ
   rename_i hg;split at aQ
   case h_2=>cases aQ
   rename_i kE H2 σ2 di;rw[cond_eq_ite]at aQ;split at aQ
   case isTrue=>cases aQ
   rename_i aj;cases aQ;refine tail g _ di (kN aj) ?_ ?_
   ·intro jA;rw[gB]at jA;simp only[a5s,c11,e6x]at jA;exact λb hb=>c1h _ _ (jA.2 b hb)
   intro C f' h I ρ a w af hf;obtain⟨bT,aF,e8,aG⟩:=gO af hf;refine⟨_,aG,?_⟩;intro R hc K Q hK;obtain⟨i,hi⟩:=e4v.1 hg;rw[b3i (c45 ok hi)]at hc;have bh:(bT++args.map a.eval++aF).toList.toArray=bT++args.map a.eval++aF:=by apply e9w;simp
   rw[bh]at hc;refine a6v (by rw[cX];intro c hc;cases hc) ?_;rw[a96 cX e8,a39 ok hg];refine a7n (Calls.mono hc ?_);intro en w' hR;obtain⟨c,rfl,hk⟩:=hK en w' hR;exact hk
 ·split at hs
  case h_2=>cases hs
  rename_i v' eff ha;rw[cond_eq_ite]at hs;split at hs
  case isFalse=>cases hs
  rename_i bB;cases hs;refine⟨c4x H.length eff,eff.nf,d74 bB,?_,λb hb=>c6g hb,d35 ok b4 bR hd ha⟩;rw[a8l];unfold Eff.nf;split<;>rfl
end
end Go.Ax
/- AxDraw3: the whole of a region that draws its order. -/
namespace Go.Ax
section
variable {E:Env}{e:Entry}{N m0:Nat}{an:Array Oper}{Q:Exit→Act→World→Prop}{f0:Nat→AV}{h0:FHeap}
structure RecOk(E:Env)(ro:Option Nat)(e:Entry)(N m0:Nat)(an:Array Oper)(Q:Exit→Act→World→Prop)(f0:Nat→AV)(h0:FHeap)(p:List Rec)(i:Nat)(r:Rec):Prop where
 dst:∀o,an[i]?=some o→r.dst=o.dst
 keys:∀b,(r.ov b).isSome=true→b∈r.log.keys
 good:∀{C:Nat→Prop} {f:Nat→AV} {h:FHeap} {I:Nat→Prop} {ρ:PMap} {a:Act} {w:World},DNow E e N m0 C f h I ρ a w→(∀o,an[i]?=some o→∀s∈looks an.toList o,f s=gL fov f0 a3l p s)→
  (∀b∈r.log.needs,h b=gL hov h0 a3l p b)→(∀b,cnt m0 p≤b→b<cnt m0 p+r.fresh→¬C b)→
  ∀{K:Act→World→Prop},(∀I' ρ' a' w',DNow E e N m0 (λb=>C b∨(cnt m0 p≤b∧b<cnt m0 p+r.fresh)) (λs=>(fov r s).getD (f s)) (λb=>(hov r b).getD (h b)) I' ρ' a' w'→K a' w')→wpOpIn (wf ro) 0 E.P an Q i K a w
def RecsOk(E:Env)(ro:Option Nat)(e:Entry)(N m0:Nat)(an:Array Oper)(Q:Exit→Act→World→Prop)(f0:Nat→AV)(h0:FHeap)(aD:List Rec):Prop:=∀i r,nth aD i=some r→RecOk E ro e N m0 an Q f0 h0 (pre aD i) i r
theorem RecsOk.cons{ro:Option Nat}{aD:List Rec}{r:Rec}(h:RecsOk E ro e N m0 an Q f0 h0 aD)(hr:RecOk E ro e N m0 an Q f0 h0 aD aD.length r):RecsOk E ro e N m0 an Q f0 h0 (r::aD):=by
 intro i r' hi;unfold nth at hi;simp only[pre];split at hi
 ·rename_i he;cases hi;rw[e6q he,he];exact hr
 ·rename_i he;rw[e5s he];exact h i r' hi
theorem c2c:∀{l:List Rec},m0≤cnt m0 l
 | []=>e6o _
 |r::ai=>by have:=c2c (l:=ai);simp only[cnt];omega
theorem c16{I:Nat→Prop}{w:World}{ρ:PMap}{a:Act}{v:AV}{j d:Nat}(hg:a2g an.toList j=some d)(hv:VRel I w ρ v (a.tmps.getD d undef)) :
 (∀b,v = .bool b→yielded an a.tmps j=some b)∧(v = .tuple []→yielded an a.tmps j=none):=by
 have hd:(an[j]?).bind (·.dst)=some d:=by simpa[a2g]using hg
 have a8:∀c,a.tmps.getD d undef=c→c≠undef→a.tmps[d]?=some c:=by
  intro c hc az;rw[e6y]at hc;cases hx:a.tmps[d]? with
  |none=>rw[hx]at hc;exact absurd hc.symm az
  |some x=>rw[hx]at hc;simpa using hc
 refine⟨λb hb=>?_,λhb=>?_⟩
 ·rw[hb]at hv;simp only[VRel]at hv;have:=a8 _ hv (by simp[undef]);simp[yielded,hd,this]
 ·rw[hb]at hv;simp only[VRel]at hv;obtain⟨cs,hc,cM⟩:=hv;unfold yielded;rw[hd];simp only[e8n];rw[e6y]at hc;cases hx:a.tmps[d]? with
  |none=>rfl
  |some x=>rw[hx]at hc;simp only[e7v]at hc;rw[hc]
theorem c6z{o:Oper}{s:Nat}(h:s∈b0c o.op.operands.toList):s∈looks an.toList o:=List.mem_append_left _ h
theorem c03{o:Oper}{j d:Nat}{bj:Bool}(hg:o.guard=some (j,bj))(hs:a2g an.toList j=some d):d∈looks an.toList o:=by simp[looks,hg,hs]
theorem a8c(ok:EnvOk E){ro:Option Nat}{call:FuncId→List AV→a02→Option (AV×a02)}(ag:a3e E call)(b4:e.m≤m0){R:Type}{k:Frm→a02→Option R}{r:R} :
 ∀(ai:List Oper) (aD:List Rec) (F:Frm) (H:a02),ai=an.toList.drop aD.length→aD.length+ai.length=an.size→a2n F=gL fov f0 a3l aD→a01 H=gL hov h0 a3l aD→H.length=cnt m0 aD→
  RecsOk E ro e N m0 an Q f0 h0 aD→a22 E true N call an.toList ai (aD.map (·.log)) F H k=some r→
  ∃aV F' H',aV.length=an.size∧a2n F'=gL fov f0 a3l aV∧a01 H'=gL hov h0 a3l aV∧H'.length=cnt m0 aV∧RecsOk E ro e N m0 an Q f0 h0 aV∧
   logOk an.toList (aV.map (·.log)).length (aV.map (·.log))=true∧k F' H'=some r
 | [],aD,F,H,_,aj,hF,hH,hn,cN,ae=>by
  simp only[a22,e9t,Bool.false_or]at ae;rw[cond_eq_ite]at ae;split at ae
  case isFalse=>cases ae
  rename_i gu;exact⟨aD,F,H,by simpa using aj,hF,hH,hn,cN,gu,ae⟩
 |o::ai,aD,F,H,b3,aj,hF,hH,hn,cN,ae=>by
  have ho:an[aD.length]?=some o:=by
   have:(an.toList.drop aD.length)[0]?=some o:=by rw[←b3];rfl
   rw[List.getElem?_drop]at this;simpa using this
  have d8:ai=an.toList.drop (aD.length+1):=by
   have:(an.toList.drop aD.length).drop 1=ai:=by rw[←b3];rfl
   rw[List.drop_drop]at this;exact this.symm
  unfold a22 at ae;rw[cond_eq_ite]at ae;split at ae
  case isFalse=>cases ae
  rename_i hd;simp only[e5l]at aj
  -- a step that is executed,and one that is not
  have exec:∀F0,a2n F0=a2n F→(match a0n E true call F0 H o.op with
   |some (v,H',l)=>a22 E true N call an.toList ai (l::aD.map (·.log)) (a32 F0 o.dst v) H' k
   |none=>none)=some r→
   (∀{I:Nat→Prop} {w:World} {ρ:PMap} {a:Act} {f:Nat→AV},(∀s∈looks an.toList o,f s=gL fov f0 a3l aD s)→(∀s,VRel I w ρ (f s) (a.tmps.getD s undef))→Region.wanted o (yielded an a.tmps)=true)→
   ∃aV F' H',aV.length=an.size∧a2n F'=gL fov f0 a3l aV∧a01 H'=gL hov h0 a3l aV∧H'.length=cnt m0 aV∧RecsOk E ro e N m0 an Q f0 h0 aV∧
    logOk an.toList (aV.map (·.log)).length (aV.map (·.log))=true∧k F' H'=some r:=by
   intro F0 mW hr hw;split at hr
   case h_2=>cases hr
   rename_i v H' l hs;obtain⟨ov,fresh,h1,h2,h3,h4⟩:=c5o (ro:=ro) (e:=e) (N:=N) (m0:=m0) ok ag b4 (by rw[hn];exact c2c) hs hd;refine a8c ok ag b4 ai (⟨o.dst,v,ov,fresh,l⟩::aD) (a32 F0 o.dst v) H' (by simpa using d8) (by simp only[e5l];omega) ?_ ?_ ?_ (cN.cons ?_) hr
   ·simp only[gL,a3l,e8f];rw[←hF,←mW]
    funext s
    cases jS:o.dst with
    |none=>simp[a32,fov]
    |some d=>rw[a7f];simp only[fov,Option.some.injEq];split<;>rfl
   ·simp only[gL,a3l,e8f];rw[←hH];exact h1
   ·simp only[cnt];rw[←hn];exact h2
   ·refine⟨λo' dh=>by rw[ho]at dh;cases dh;rfl,h3,?_⟩;intro C f h I ρ a w af hf hh hC K hK;have hf:=hf o ho;unfold wpOpIn;simp only[ho];rw[e6q (hw hf af.frm)];refine(h4 af (λs hs=>by rw[hf s (c6z hs),mW,hF]) (λb hb=>by rw[hh b hb,hH]) (by rw[hn];exact hC) ?_);rw[hn];exact hK
  have skip:∀F0,a2n F0=a2n F→a22 E true N call an.toList ai (⟨[],[]⟩::aD.map (·.log)) (a32 F0 o.dst (.tuple [])) H k=some r→
   (∀{I:Nat→Prop} {w:World} {ρ:PMap} {a:Act} {f:Nat→AV},(∀s∈looks an.toList o,f s=gL fov f0 a3l aD s)→(∀s,VRel I w ρ (f s) (a.tmps.getD s undef))→Region.wanted o (yielded an a.tmps)=false)→
   ∃aV F' H',aV.length=an.size∧a2n F'=gL fov f0 a3l aV∧a01 H'=gL hov h0 a3l aV∧H'.length=cnt m0 aV∧RecsOk E ro e N m0 an Q f0 h0 aV∧
    logOk an.toList (aV.map (·.log)).length (aV.map (·.log))=true∧k F' H'=some r:=by
   intro F0 mW hr hw;refine a8c ok ag b4 ai (⟨o.dst,.tuple [],λ_=>none,0,⟨[],[]⟩⟩::aD) (a32 F0 o.dst (.tuple [])) H (by simpa using d8) (by simp only[e5l];omega) ?_ ?_ ?_ (cN.cons ?_) hr
   ·simp only[gL,a3l,e8f];rw[←hF,←mW]
    funext s
    cases jS:o.dst with
    |none=>simp[a32,fov]
    |some d=>rw[a7f];simp only[fov,Option.some.injEq];split<;>rfl
   ·simp only[gL,a3l,e8f];rw[←hH];rfl
   ·simp only[cnt];exact hn
   ·refine⟨λo' dh=>by rw[ho]at dh;cases dh;rfl,by simp,?_⟩;intro C f h I ρ a w af hf hh hC K hK;have hf:=hf o ho;unfold wpOpIn;simp only[ho];rw[e5s (by rw[hw hf af.frm];simp)];refine⟨λf _=>d4u ro f,?_⟩;refine hK I ρ _ _ ⟨af.imm,af.map,af.ext,af.rel,λb hb hc=>af.nrel b hb (λh=>hc (.inl h)),af.fin,by rw[a7s];exact af.size,?_,by rw[a2k];exact af.marks⟩;exact a9s (λ_ _ h=>h) af.size af.frm hd (by simp only[VRel,undef];exact⟨#[],rfl,by simp[VRels]⟩)
  split at ae
  ·rename_i hg;exact exec F rfl ae (λ_ _=>by simp[Region.wanted,hg])
  ·rename_i j bj hg;split at ae
   case h_1=>cases ae
   rename_i d lK;have hY:=c03 (o:=o) hg lK;split at ae
   ·rename_i b hb;have hw:∀{I:Nat→Prop} {w:World} {ρ:PMap} {a:Act} {f:Nat→AV},(∀s∈looks an.toList o,f s=gL fov f0 a3l aD s)→(∀s,VRel I w ρ (f s) (a.tmps.getD s undef))→Region.wanted o (yielded an a.tmps)=(b==bj):=by
     intro I w ρ a f hf hv;have lO:f d = .bool b:=by rw[hf d hY,←hF,hb]
     have:=(c16 lK (hv d)).1 b lO;simp[Region.wanted,hg,this]
    have aC:a2n (a32 F (some d) (.bool b))=a2n F:=by
     funext s
     rw[a7f];split
     ·rename_i hs;rw[←hs,hb]
     ·rfl
    cases b
    ·simp only[e6w]at ae;cases bj
     ·simp only[e6w]at ae;exact exec _ aC ae (λhf hv=>by rw[hw hf hv];rfl)
     ·simp only[e6m]at ae;exact skip _ aC ae (λhf hv=>by rw[hw hf hv];rfl)
    ·simp only[e6m]at ae;cases bj
     ·simp only[e6w]at ae;exact skip _ aC ae (λhf hv=>by rw[hw hf hv];rfl)
     ·simp only[e6m]at ae;exact exec _ aC ae (λhf hv=>by rw[hw hf hv];rfl)
   ·rename_i hb;refine skip F rfl ae (λ{I w ρ a f} hf hv=>?_);have lO:f d = .tuple []:=by rw[hf d hY,←hF,hb]
    have:=(c16 lK (hv d)).2 lO;simp[Region.wanted,hg,this]
   ·cases ae
theorem a3z{aD:List Rec}:∀{i:Nat} {r:Rec},nth aD i=some r→nth (aD.map (·.log)) i=some r.log:=by
 induction aD with
 |nil=>intro i r h;simp[nth]at h
 |cons a ai ih=>
  intro i r h;unfold nth at h;simp only[e4r,nth,c10];split at h
  ·rename_i hi;cases h;rw[e6q hi]
  ·rename_i hi;rw[e5s hi];exact ih h
theorem b28{a b:List Nat}{x:Nat}(h1:x∈a)(h2:x∈b):b80 a b=true:=by simp only[b80,List.any_eq_true,a1x];exact⟨x,h1,h2⟩
theorem DNow.weaken{C C':Nat→Prop}{f:Nat→AV}{h:FHeap}{I:Nat→Prop}{ρ:PMap}{a:Act}{w:World}(d:DNow E e N m0 C f h I ρ a w)(hC:∀b,C b→C' b):DNow E e N m0 C' f h I ρ a w:={ d with nrel:=λb hb hc=>d.nrel b hb (λh=>hc (hC b h)) }
theorem b4m{S:Nat→Bool}{b:Nat}:∀{l:List Rec},c3t m0 S l b→c3t m0 a3l l b
 | [],h=>h
 |_::_,h=>h.imp (λ⟨_,h2⟩=>⟨rfl,h2⟩) b4m
theorem d2c{ro:Option Nat}(aI:c2a an.toList=true){aD:List Rec}(aj:aD.length=an.size)(cN:RecsOk E ro e N m0 an Q f0 h0 aD)(gu:logOk an.toList (aD.map (·.log)).length (aD.map (·.log))=true)
 (hQ:∀I ρ a w,DNow E e N m0 (c3t m0 a3l aD) (gL fov f0 a3l aD) (gL hov h0 a3l aD) I ρ a w→Q .normal a w) :
 ∀(aU:Nat) (au:Array Bool) (I:Nat→Prop) (ρ:PMap) (a:Act) (w:World),au.size=an.size→((List.range an.size).filter λi=>!au.getD i false).length≤aU→
  (∀j,au.getD j false=true→a6o an.toList (λi=>au.getD i false) j)→
  DNow E e N m0 (c3t m0 (λi=>au.getD i false) aD) (gL fov f0 (λi=>au.getD i false) aD) (gL hov h0 (λi=>au.getD i false) aD) I ρ a w→
  wpAnyIn (wf ro) 0 E.P .any an Q aU au a w:=by
 have done:∀(au:Array Bool) (I:Nat→Prop) (ρ:PMap) (a:Act) (w:World),(∀i,i<an.size→au.getD i false=true)→
  DNow E e N m0 (c3t m0 (λi=>au.getD i false) aD) (gL fov f0 (λi=>au.getD i false) aD) (gL hov h0 (λi=>au.getD i false) aD) I ρ a w→Q .normal a w:=by
  intro au I ρ a w aT af;have bE:∀j,j<aD.length→(λi=>au.getD i false) j=a3l j:=λj hj=>by rw[aj]at hj;exact aT j hj
  rw[b6m bE,b6m bE]at af;exact hQ I ρ a w (af.weaken λb=>b4m)
 intro aU
 induction aU with
 |zero=>
  intro au I ρ a w bu jW b8 af;have aT:∀i,i<an.size→au.getD i false=true:=by
   intro i hi;cases hx:au.getD i false with
   |true=>rfl
   |false=>
    have:i∈(List.range an.size).filter λi=>!au.getD i false:=by rw[e9u,e8y];exact⟨hi,by rw[hx];rfl⟩
    have:=List.length_pos_of_mem this;omega
  have eV:Region.ready .any an au=[]:=by
   cases hr:Region.ready .any an au with
   |nil=>rfl
   |cons i ai=>
    have:i∈Region.ready .any an au:=by rw[hr];simp
    obtain⟨h1,o,h2,_⟩:=mem_ready.1 this;have hi:=(e7j.1 h2).1;have:=aT i hi;simp only[e6y,Array.getElem?_eq_getElem (show i<au.size by omega),e7v]at h1 this;rw[this]at h1;cases h1
  exact⟨eV,done au I ρ a w aT af⟩
 |succ aU ih=>
  intro au I ρ a w bu jW b8 af;refine⟨λeV=>done au I ρ a w ?_ af,λi hi=>?_⟩
  ·intro i
   induction i using Nat.strongRecOn with
   |_ i ihi=>
    intro hi;cases hx:au.getD i false with
    |true=>rfl
    |false=>
     exfalso;have cG:i∈Region.ready .any an au:=by
      refine mem_ready.2 ⟨?_,an[i],by simp[hi],λe he hb=>?_⟩
      ·simpa only[e6y,Array.getElem?_eq_getElem (show i<au.size by omega),e7v]using hx
      ·have:=(a99 aI (j:=i) (y:=an[i]) (by simp[hi])).1 e (by simpa using he) hb;exact ihi e.on this (by omega)
     rw[eV]at cG;cases cG
  ·obtain⟨h1,o,ho,jR⟩:=mem_ready.1 hi;have gz:=(e7j.1 ho).1;have bQ:an.toList[i]?=some o:=by simpa using ho
   generalize hS:(λi=>au.getD i false)=S at b8 af;have iG:S i=false:=by rw[←hS];simp only[e6y,Array.getElem?_eq_getElem (show i<au.size by omega),e7v]at h1⊢;exact h1
   have iA:∀j,S j=true→a6o an.toList S j:=by intro j hj;rw[←hS]at hj;exact b8 j hj
   have lV:a6o an.toList S i:=by intro o' dh e he hb;rw[bQ]at dh;cases dh;rw[←hS];exact jR e (by simpa using he) hb
   obtain⟨r,hr⟩:=c1o (l:=aD) (i:=i) (by omega);have jC:=cN i r hr;have kI:∀j r',nth aD j=some r'→∃o',an.toList[j]?=some o'∧r'.dst=o'.dst:=by
    intro j r' hj;have bg:=b23 hj;have:an[j]?=some an[j]:=by simp
    exact⟨an[j],by simp,(cN j r' hj).dst _ this⟩
   have bm:∀j,a58 an.toList j i=true→S j=true:=λj h=>b4k iA lV h;have after:∀j,a58 an.toList i j=true→S j=false:=by
    intro j h;cases hx:S j with
    |false=>rfl
    |true=>rw[b4k iA (iA j hx) h]at iG;cases iG
   refine jC.good af ?_ ?_ ?_ ?_
   ·intro o' dh s hs;rw[ho]at dh;cases dh;refine d6o hr λj r' hj hd=>?_;obtain⟨oj,pq,rt⟩:=kI j r' hj;have lQ:oj.dst=some s:=by
     rw[←rt];unfold fov at hd;split at hd
     ·assumption
     ·simp at hd
    refine⟨λfk=>bm j ?_,λbc=>?_⟩
    ·refine(a99 aI bQ).2 j oj pq fk ?_;simp only[a55,lQ,e9o,List.contains_iff_mem];exact .inl (.inl hs)
    ·rcases Nat.lt_or_eq_of_le bc with ak|rfl
     ·refine after j ((a99 aI pq).2 i o bQ ak ?_);simp only[a55,lQ,e9o,List.contains_iff_mem];exact .inl (.inr hs)
     ·exact iG
   ·intro b hb;refine d6o hr λj r' hj hd=>?_;have bJ:=(cN j r' hj).keys b hd;refine⟨λfk=>bm j ?_,λbc=>?_⟩
    ·refine b15 gu j i _ _ fk (a3z hj) (a3z hr) ?_;simp only[LogE.clash,b28 bJ hb,Bool.true_or]
    ·rcases Nat.lt_or_eq_of_le bc with ak|rfl
     ·refine after j (b15 gu i j _ _ ak (a3z hr) (a3z hj) ?_);simp only[LogE.clash,b28 hb bJ,Bool.or_true]
     ·exact iG
   ·intro b cf dF hm;rw[c6w hr cf dF hm]at iG;cases iG
   ·intro I' ρ' a' w' ls;have mP:(λj=>(au.setIfInBounds i true).getD j false)=b7w S i:=by
     funext j
     rw[←hS];simp only[b7w,e6y,e7i];by_cases bc:i=j
     ·subst bc;simp[show i<au.size by omega]
     ·rw[e5s bc,e7r.2 (f05 bc),Bool.false_or]
    refine ih _ I' ρ' a' w' (by simpa using bu) ?_ ?_ ?_
    ·have od:((List.range an.size).filter λj=>!(au.setIfInBounds i true).getD j false)=((List.range an.size).filter λj=>!au.getD j false).filter λj=>!(j==i):=by
      rw[List.filter_filter];refine List.filter_congr λj _=>?_;have h1:=congrFun mP j;have h2:=congrFun hS j;rw[h1,h2];simp[b7w]
     rw[od];have:(((List.range an.size).filter λj=>!au.getD j false).filter λj=>!(j==i)).length<((List.range an.size).filter λj=>!au.getD j false).length:=by refine List.length_filter_lt_length_iff_exists.2 ⟨i,?_,by simp⟩;rw[e9u,e8y];refine⟨gz,?_⟩;have h2:=congrFun hS i;rw[h2,iG];rfl
     omega
    ·rw[mP];have iZ:∀j,a6o an.toList S j→a6o an.toList (b7w S i) j:=λj h o ho e he hb=>by simp[b7w,h o ho e he hb]
     intro j hj;have hj:b7w S i j=true:=by rw[←mP];exact hj
     simp only[b7w,e9o,e9d]at hj;rcases hj with rfl|hj
     ·exact iZ _ lV
     ·exact iZ _ (iA j hj)
    ·rw[mP];rw[c82 hr iG ?_,c82 hr iG ?_]
     ·exact ls.weaken λb hb=>b81 hr hb
     ·intro k r' hk gZ oH s hs;cases hx:hov r' s with
      |none=>rfl
      |some ob=>have h1:=jC.keys s hs;have h2:=(cN k r' hk).keys s (by unfold hov at hx;rw[hx];rfl);have:=after k (b15 gu i k _ _ gZ (a3z hr) (a3z hk) (by simp only[LogE.clash,b28 h1 h2,Bool.or_true,Bool.true_or]));rw[oH]at this;cases this
     ·intro k r' hk gZ oH s hs;cases hx:fov r' s with
      |none=>rfl
      |some v=>
       obtain⟨ok,qR,rq⟩:=kI k r' hk;have h1:o.dst=some s:=by
        rw[←jC.dst o ho];unfold fov at hs;split at hs
        ·assumption
        ·simp at hs
       have h2:ok.dst=some s:=by
        rw[←rq];unfold fov at hx;split at hx
        ·assumption
        ·cases hx
       have:=after k ((a99 aI qR).2 i o bQ gZ (by simp[a55,h1,h2]));rw[oH]at this;cases this
theorem b9n(ok:EnvOk E){ro:Option Nat}{call:FuncId→List AV→a02→Option (AV×a02)}(ag:a3e E call){R:Type}{k:Frm→a02→Option R}{r:R}{F:Frm}{H:a02}{I:Nat→Prop}{ρ:PMap}{a:Act}{w:World}
 (aI:c2a an.toList=true)(hQ:∀F H I ρ a w,Now E e N F H I ρ a w→k F H=some r→Q .normal a w)(af:Now E e N F H I ρ a w)(ae:a22 E true N call an.toList an.toList [] F H k=some r)(id:Nat) :
 (Code.region id an true).wpIn (wf ro) 0 E.P Q a w:=by
 refine wpIn_region_any ok.mixed ?_;obtain⟨aD,F',H',h1,h2,h3,h4,h5,h6,h7⟩:=a8c (ro:=ro) (e:=e) (N:=N) (m0:=H.length) (Q:=Q) (f0:=a2n F) (h0:=a01 H) ok ag af.low an.toList [] F H (by simp) (by simp) rfl rfl rfl (λi r h=>by simp[nth]at h) ae;have gC:∀i,(Array.replicate an.size false).getD i false=false:=by intro i;simp only[e6y,Array.getElem?_replicate];split<;>rfl
 have cO:∀{V:Type} (o:Rec→Nat→Option V) (g0:Nat→V) (l:List Rec),gL o g0 (λi=>(Array.replicate an.size false).getD i false) l=g0:=by
  intro V o g0 l
  induction l with
  |nil=>rfl
  |cons a ai ih=>unfold gL;rw[e5s (by rw[gC];simp)];exact ih
 refine d2c aI h1 h5 h6 ?_ an.size _ I ρ a _ (by simp) ?_ ?_ ?_
 ·intro I' ρ' a' w' hd;refine hQ F' H' I' ρ' a' w' ⟨hd.imm,hd.map,hd.ext,?_,?_,⟨hd.size,λs=>by rw[h2];exact hd.frm s⟩,?_,hd.marks⟩ h7
  ·rw[h3];exact hd.rel
  ·intro b hb;have pG:H.length≤cnt H.length aD:=c2c;refine hd.nrel b (by omega) (λhm=>?_);have:=c01 hm;omega
  ·have pG:H.length≤cnt H.length aD:=c2c;have:=af.low;omega
 ·refine Nat.le_trans (List.length_filter_le _ _) (by simp)
 ·intro j hj;have:=gC j;rw[this]at hj;cases hj
 ·have cS:=af.drew;rw[cO,cO];exact⟨cS.imm,cS.map,cS.ext,cS.rel,λb hb _=>cS.nrel b hb,⟨_,cS.nrel⟩,cS.frm.1,cS.frm.2,cS.marks⟩
end
end Go.Ax
/- AxMark: what a loop over a function leaves behind: blocks for deferred calls, shut when the function ends. -/
namespace Go.Ax
section
variable {I:Nat→Prop}{w w':World}
def SameD(w w':World)(c:Nat):Prop:=w'.heap[c]?=w.heap[c]?∨∃d,w.heap[c]?=some (.deferred d)
theorem SameD.map{c:Nat}{es:Array MapEntry}{cl:Nat}(h:SameD w w' c)(hc:w.heap[c]?=some (.map es cl)):w'.heap[c]?=some (.map es cl):=by
 rcases h with h|⟨d,h⟩
 ·rw[h,hc]
 ·rw[hc]at h;cases h
theorem SameD.cell{b o:Nat}{c:Value}(h:SameD w w' b)(hc:w.cell? ⟨b,o,none⟩=some c):w'.cell? ⟨b,o,none⟩=some c:=by
 rcases h with h|⟨d,h⟩
 ·rw[b37 h,hc]
 ·simp[World.cell?,h]at hc
mutual
theorem VRel.monoD(hw:∀c,I c→SameD w w' c):∀{ρ:PMap} (v:AV) {c:Value},VRel I w ρ v c→VRel I w' ρ v c
 |ρ,v,c,h=>by
  cases v with
  |junk=>simp[VRel]
  |bool b=>simpa[VRel]using h
  |int k n=>simpa[VRel]using h
  |str s=>simpa[VRel]using h
  |nilptr=>simpa[VRel]using h
  |nilslice=>simpa[VRel]using h
  |nilmap=>simpa[VRel]using h
  |nilfunc=>simpa[VRel]using h
  |nilifc=>simpa[VRel]using h
  |ptr b i o=>simpa only[VRel]using h
  |iptr cs=>simp only[VRel]at h⊢;obtain⟨b,off,rfl,hb,h⟩:=h;exact⟨b,off,rfl,hb,VAt.monoD hw cs (hw _ hb) h⟩
  |slice b off len cap=>simpa only[VRel]using h
  |islice aa cap=>
   simp only[VRel]at h⊢;obtain⟨a,n,k,rfl,h1,h2,h3⟩:=h;refine⟨a,n,k,rfl,h1,h2,h3.imp id ?_⟩
   rintro⟨hs,hb,h⟩
   exact⟨hs,hb,VRows.monoD hw aa (hw _ hb) h⟩
  |map b=>simpa only[VRel]using h
  |imap ks vs bs bd=>simp only[VRel]at h⊢;obtain⟨b,es,rfl,hb,he,h1,h2,h3⟩:=h;exact⟨b,es,rfl,hb,(hw _ hb).map he,VRels.monoD hw ks h1,VRels.monoD hw vs h2,h3⟩
  |iset ks=>simp only[VRel]at h⊢;obtain⟨b,es,cl,rfl,hb,he,h1⟩:=h;exact⟨b,es,cl,rfl,hb,(hw _ hb).map he,h1⟩
  |yfn b=>simpa only[VRel]using h
  |func fn fs cs=>simp only[VRel]at h⊢;obtain⟨bT,aF,rfl,h1,h2⟩:=h;exact⟨bT,aF,rfl,VRels.monoD hw fs h1,VRels.monoD hw cs h2⟩
  |iface t x=>simp only[VRel]at h⊢;obtain⟨x',rfl,h⟩:=h;exact⟨x',rfl,VRel.monoD hw x h⟩
  |agg cs=>simp only[VRel]at h⊢;obtain⟨aF,rfl,h⟩:=h;exact⟨aF,rfl,VRels.monoD hw cs h⟩
  |tuple cs=>simp only[VRel]at h⊢;obtain⟨aF,rfl,h⟩:=h;exact⟨aF,rfl,VRels.monoD hw cs h⟩
theorem VRels.monoD(hw:∀c,I c→SameD w w' c):∀{ρ:PMap} (vs:List AV) {cs:List Value},VRels I w ρ vs cs→VRels I w' ρ vs cs
 |ρ,[],cs,h=>by simpa[VRels]using h
 |ρ,v::vs,cs,h=>by simp only[VRels]at h⊢;obtain⟨c,aF,rfl,h1,h2⟩:=h;exact⟨c,aF,rfl,VRel.monoD hw v h1,VRels.monoD hw vs h2⟩
theorem VAt.monoD(hw:∀c,I c→SameD w w' c):∀{ρ:PMap} (vs:List AV) {b off:Nat},SameD w w' b→VAt I w ρ vs b off→VAt I w' ρ vs b off
 |ρ,[],b,off,hb,h=>by simp[VAt]
 |ρ,v::vs,b,off,hb,h=>by simp only[VAt]at h⊢;obtain⟨⟨c,hc,h1⟩,h2⟩:=h;exact⟨⟨c,hb.cell hc,VRel.monoD hw v h1⟩,VAt.monoD hw vs hb h2⟩
theorem VRows.monoD{k:Nat}(hw:∀c,I c→SameD w w' c):∀{ρ:PMap} (rs:List (List AV)) {b off:Nat},SameD w w' b→VRows I w k ρ rs b off→VRows I w' k ρ rs b off
 |ρ,[],b,off,hb,h=>by simp[VRows]
 |ρ,r::rs,b,off,hb,h=>by simp only[VRows]at h⊢;obtain⟨h0,h1,h2⟩:=h;exact⟨h0,VAt.monoD hw r hb h1,VRows.monoD hw rs hb h2⟩
end
theorem ORel.monoD{G:GTab (List AV)}{ρ:PMap}{m:Pl}(hw:∀c,I c→SameD w w' c)(o:AObj)(hb:w'.heap[m.blk]?=w.heap[m.blk]?)(h:ORel G I w ρ m o):ORel G I w' ρ m o:=by
 cases o with
 |row k aa=>obtain⟨h1,h2,⟨bD,e,h3,h4⟩,h5⟩:=h;exact⟨h1,h2,⟨bD,e,by rw[hb,h3],h4⟩,VRows.monoD hw aa (.inl hb) h5⟩
 |map ks vs bs bd=>obtain⟨es,h1,h2,h3,h4⟩:=h;exact⟨es,by rw[hb,h1],VRels.monoD hw ks h2,VRels.monoD hw vs h3,h4⟩
 |siter s pos=>obtain⟨h0,t,h1,h2⟩:=h;exact⟨h0,t,by rw[hb,h1],h2⟩
 |uset ks=>obtain⟨es,cl,h1,h2⟩:=h;exact⟨es,cl,by rw[hb,h1],h2⟩
 |miter ks b7 cD=>
  obtain⟨h0,h⟩:=h;rcases h with ⟨h1,h2,h3⟩|⟨c,es,cl,seen,h1,h2,h3,h4,h5⟩
  ·exact⟨h0,.inl ⟨h1,h2,by rw[hb,h3]⟩⟩
  ·exact⟨h0,.inr ⟨c,es,cl,seen,h1,(hw c h1).map h2,h3,by rw[hb,h4],h5⟩⟩
 |yloop y F st=>obtain⟨ri,r,h0,h1,h2,h3,h4,h5,h6,h7⟩:=h;exact⟨ri,r,h0,by rw[hb,h1],h2,h3,h4,h5,λs=>VRel.monoD hw _ (h6 s),h7⟩
end
section
variable {G:GTab (List AV)}{I K:Nat→Prop}{ρ:PMap}{h:FHeap}{w w':World}
theorem HRel.shut(r:HRel G I K ρ h w){S:Nat→Prop}(hS:∀c,S c→I c∧∃d,w.heap[c]?=some (.deferred d))(aL:w'.heap.size=w.heap.size)(hw:∀c,¬S c→w'.heap[c]?=w.heap[c]?) :
 HRel G I K ρ h w':=by
 have hD:∀c,SameD w w' c:=by
  intro c;by_cases hc:S c
  ·exact .inr (hS c hc).2
  ·exact .inl (hw c hc)
 refine⟨?_,r.inj,λb m hb=>by rw[aL];exact r.dom b m hb,λc hc=>by rw[aL];exact r.imm c hc,λc hc=>by rw[aL];exact r.kept c hc,r.apart,?_⟩
 ·intro b o hb;obtain⟨m,h1,h2,h3,h4⟩:=r.live b o hb;exact⟨m,h1,h2,h3,ORel.monoD (λc _=>hD c) o (hw _ (λhc=>h2 (hS _ hc).1)) h4⟩
 ·intro g cs hg;obtain⟨h1,h2⟩:=r.glob g cs hg;exact⟨h1,VAt.monoD (λc _=>hD c) cs (hD g) h2⟩
theorem b9d(r:HRel G I K ρ h w){ob:Obj}(hw:w'.heap=w.heap.push ob)(ht:w'.tape=w.tape)(dL:w'.os=w.os)(aM:w'.output=w.output) :
 Stepped G I K ρ w (λc=>I c∨c=w.heap.size) ρ h w':=by
 have aJ:∀c,c<w.heap.size→w'.heap[c]?=w.heap[c]?:=by intro c hc;rw[hw,e9x,e5s (by omega)]
 refine⟨λ_ h=>.inl h,λ_ _ h=>h,⟨dL,ht,aM,by rw[hw];simp,?_⟩,⟨?_,r.inj,?_,?_,?_,?_,?_⟩⟩
 ·rintro c (hc|hc)
  ·exact aJ c (r.imm c hc)
  ·exact aJ c (r.kept c hc)
 ·intro b o hb;obtain⟨m,h1,h2,h3,h4⟩:=r.live b o hb;have hd:=r.dom b m h1;exact⟨m,h1,λhc=>hc.elim h2 (λe=>by omega),h3,ORel.mono o (λ_ h=>.inl h) (λc hc=>aJ c (r.imm c hc)) (λ_ _ h=>h) (aJ _ hd) h4⟩
 ·intro b m hb;have:=r.dom b m hb;rw[hw];simp only[Array.size_push];omega
 ·rintro c (hc|rfl)
  ·have:=r.imm c hc;rw[hw];simp only[Array.size_push];omega
  ·rw[hw];simp
 ·intro c hc;have:=r.kept c hc;rw[hw];simp only[Array.size_push];omega
 ·rintro c (hc|rfl) hk
  ·exact r.apart c hc hk
  ·have:=r.kept _ hk;omega
 ·intro g cs hg;obtain⟨h1,h2⟩:=r.glob g cs hg;exact⟨.inl h1,VAt.mono (λ_ h=>.inl h) (λc hc=>aJ c (r.imm c hc)) cs (λ_ _ h=>h) (aJ g (r.imm g h1)) h2⟩
theorem b7l(r:HRel G I K ρ h w){c0:Nat}(hI:¬I c0)(hK:¬K c0)(hl:∀b o m,h b=some o→ρ b=some m→m.blk≠c0)(aL:w'.heap.size=w.heap.size)
 (hw:∀c,c≠c0→w'.heap[c]?=w.heap[c]?)(ht:w'.tape=w.tape)(dL:w'.os=w.os)(aM:w'.output=w.output):Stepped G I K ρ w I ρ h w':=by
 have bP:∀c,I c→w'.heap[c]?=w.heap[c]?:=λc hc=>hw c (λe=>hI (e▸hc));refine⟨λ_ h=>h,λ_ _ h=>h,⟨dL,ht,aM,by omega,?_⟩,⟨?_,r.inj,λb m hb=>by rw[aL];exact r.dom b m hb,λc hc=>by rw[aL];exact r.imm c hc,λc hc=>by rw[aL];exact r.kept c hc,r.apart,?_⟩⟩
 ·rintro c (hc|hc)
  ·exact bP c hc
  ·exact hw c (λe=>hK (e▸hc))
 ·intro b o hb;obtain⟨m,h1,h2,h3,h4⟩:=r.live b o hb;exact⟨m,h1,h2,h3,ORel.mono o (λ_ h=>h) bP (λ_ _ h=>h) (hw _ (hl b o m hb h1)) h4⟩
 ·intro g cs hg;obtain⟨h1,h2⟩:=r.glob g cs hg;exact⟨h1,VAt.mono (λ_ h=>h) bP cs (λ_ _ h=>h) (bP g h1) h2⟩
end
/-! ### a function's end -/
def a2c:List Nat→World→World
 | [],w=>w
 |r::rs,w=>a2c rs (w.putObj r (.deferred none))
theorem b0f:∀(rs:List Nat) (w:World),(a2c rs w).heap.size=w.heap.size∧(a2c rs w).tape=w.tape∧(a2c rs w).os=w.os∧(a2c rs w).output=w.output∧
 ∀c,c∉rs→(a2c rs w).heap[c]?=w.heap[c]?
 | [],w=>⟨rfl,rfl,rfl,rfl,λ_ _=>rfl⟩
 |r::rs,w=>by obtain⟨h1,h2,h3,h4,h5⟩:=b0f rs (w.putObj r (.deferred none));refine⟨by rw[a2c,h1];simp,by rw[a2c,h2];rfl,by rw[a2c,h3];rfl,by rw[a2c,h4];rfl,λc hc=>?_⟩;simp only[e6v,not_or]at hc;rw[a2c,h5 c hc.2,World.putObj_heap_other hc.1]
theorem b0m{P:Program}{n:Nat}{F:Fence}{fn:Func}{tmps:Array Value}{R:Ending→World→Prop}:∀(rs:List Nat) (w:World),rs.Nodup→(∀r∈rs,w.heap[r]?=some (.deferred (some [])))→
 (∃v,(results fn tmps).run P (a2c rs w) = .ok v (a2c rs w)∧R (.returned v) (a2c rs w))→LeavesInM F n P fn tmps R (rs.map (λr=>(⟨.collected r,#[]⟩:Deferred))) .returning w
 | [],w,_,_,h=>by simpa[LeavesInM,LeavesIn,a2c]using h
 |r::rs,w,bz,hr,h=>by simp only[e4r,LeavesInM];refine⟨by simp,.inl ⟨r,w.putObj r (.deferred none),rfl,run_takeDeferred (hr r (by simp)),?_⟩⟩;have bz:=e8t.1 bz;refine b0m rs _ bz.2 (λq hq=>?_) h;have az:q≠r:=λe=>bz.1 (by rw[←e];exact hq);rw[World.putObj_heap_other az];exact hr q (by simp[hq])
/-! ### a scope -/
theorem a87{F:Fence}{n:Nat}{P:Program}{Q:Exit→Act→World→Prop}{a:Act}{w:World}{c:Code}(h:c.wpIn F n P (Exit.noGoto Q) a w):(Code.scope c).wpIn F n P Q a w:=by
 intro b k cs jA hb hr;have h0:(lone (b.atR a (.code (.scope c)::k)) cs w).fenced P F:=fenced_calm hb hr rfl;have s0:step P (lone (b.atR a (.code (.scope c)::k)) cs w) = .next (lone (b.atR a (.code c :: .inScope c::k)) cs w):=step_lone_go (by simp[stepG,stepG.exec,Frame.atR]);obtain⟨e,a₁,w₁,hq,bh⟩:=h b (.inScope c::k) cs jA hb hr;have s1:step P (lone (b.atR a₁ (.inScope c::k)) cs w₁) = .next (lone (b.atR a₁ k) cs w₁):=step_lone_go (by simp[stepG,stepG.exec,Frame.atR]);cases e with
 |normal=>exact⟨.normal,a₁,w₁,hq,.head h0 s0 (StepsIn.trans bh (.one (fenced_calm hb hr rfl) s1))⟩
 |exit id=>
  have hx:exitTo id (.inScope c::k)=exitTo id k:=by simp[exitTo]
  exact⟨.exit id,a₁,w₁,hq,λk' hk=>.head h0 s0 (bh.1 k' (by rw[hx];exact hk)),
   λgm hk=>let⟨k₁,h1,h2⟩:=bh.2 gm (by rw[hx];exact hk);⟨k₁,h1,.head h0 s0 h2⟩⟩
 |goto l=>exact hq.elim
 |ret=>exact⟨_,a₁,w₁,hq,.of_steps (.one h0 s0) bh⟩
 |panic ch=>exact⟨_,a₁,w₁,hq,.of_steps (.one h0 s0) bh⟩
 |outgrown=>exact⟨_,a₁,w₁,hq,.of_steps (.one h0 s0) bh⟩
end Go.Ax
/- AxCode: statements. -/
namespace Go.Ax
def a2l:Bool→Code→Bool
 |top,.region _ an ah=>bif (d0w an.toList).isSome then top && !ah else bif ah then c2a an.toList else true
 |top,.seq a b=>a2l top a&&a2l false b
 |_,.cond _ a b=>a2l false a&&a2l false b
 |_,.block _ b=>a2l false b
 |_,.loop b=>a2l (a6q b).isSome b
 |_,.scope b=>a2l false b
 |_,_=>true
def a7h(c:Code):Bool:=a2l false c
def AExit.conv:AExit→Exit
 |.normal=>.normal
 |.exit id=>.exit id
 |.ret=>.ret
def d81(E:Env)(call:FuncId→List AV→a02→Option (AV×a02))(fid:Nat)(ro:Option Nat)(e:Entry)(N lf:Nat)(keep:Nat→List Nat)(c:Code):Prop:=
 ∀{R:Type} {cur:Nat},RFOk E fid N keep ro cur c→∀{k:AExit→Frm→a02→Option R} {r:R} {Q:Exit→Act→World→Prop},(∀x F H I ρ a w,Now E e N F H I ρ a w→k x F H=some r→Q x.conv a w)→
 ∀{F:Frm} {H:a02} {I:Nat→Prop} {ρ:PMap} {a:Act} {w:World},Now E e N F H I ρ a w→a3k E e.m N keep call lf cur c F H k=some r→c.wpIn (wf ro) 0 E.P Q a w
/-! ### a loop over a set -/
theorem b8a(x:Int):∀(a b:List Int),a++x::b∈c3y x (a++b)
 | [],[]=>by simp[c3y]
 | [],y::b=>by simp[c3y]
 |y::a,b=>by simp only[e7p,c3y,e6v];exact .inr (e81 (b8a x a b))
theorem b4h:∀{ks o:List Int},o.Perm ks→o∈b4i ks
 | [],o,h=>by rw[h.eq_nil];simp[b4i]
 |x::ks,o,h=>by obtain⟨a,b,rfl⟩:=List.append_of_mem (h.mem_iff.2 (List.mem_cons_self));have h2:(a++b).Perm ks:=(List.perm_middle.symm.trans h).cons_inv;simp only[b4i,List.mem_flatMap];exact⟨a++b,b4h h2,b8a x a b⟩
theorem c1i:∀{F G:a02},c37 F G=true→F=G
 | [],[],_=>rfl
 |a::F,b::G,h=>by simp only[c37,c11]at h;rw[c1h _ _ h.1,c1i h.2]
 | [],_::_,h=>by simp[c37]at h
 |_::_,[],h=>by simp[c37]at h
theorem c1j{x:Option R3}{r:R3}(h:d5f x r=true):x=some r:=by
 unfold d5f at h;split at h
 case h_2=>cases h
 rename_i e F H;simp only[c11]at h;obtain⟨e',F',H'⟩:=r;have he:e=e':=by have:=h.1;cases e<;>cases e'<;>simp[d9u]at this<;>first|rfl|rw[this]
 rw[he,b5y h.2.1,c1i h.2.2]
section
variable {E:Env}
theorem a9h{H:a02}{b x:Nat}{o:Option AObj}:a01 (H.set b o) x=if b=x∧b<H.length then o else a01 H x:=by
 unfold a01;rw[e70];by_cases h:b=x
 ·subst h;by_cases h2:b<H.length
  ·simp[h2]
  ·simp[h2]
 ·simp[h]
theorem b6h{H:a02}{b:Nat}{o:AObj}(h:a01 H b=some o):b<H.length:=by
 unfold a01 at h;rcases e84 b H.length with h1|h1
 ·exact h1
 ·rw[e6n h1]at h;simp at h
theorem Now.dropIt{e:Entry}{N:Nat}{F:Frm}{H:a02}{I:Nat→Prop}{ρ:PMap}{a:Act}{w:World}(h:Now E e N F H I ρ a w)(it:Nat):Now E e N F (Ax.dropIt F H it) I ρ a w:=by
 unfold Ax.dropIt;split
 ·rename_i b i o hb;refine{ h with rel:=h.rel.fewer (λx ob hx=>?_),nrel:=by rw[e7y];exact h.nrel,low:=by rw[e7y];exact h.low };rw[a9h]at hx;split at hx
  ·cases hx
  ·exact hx
 ·exact h
theorem Now.step{e:Entry}{N:Nat}{F:Frm}{H:a02}{I:Nat→Prop}{ρ:PMap}{a:Act}{w w':World}(h:Now E e N F H I ρ a w){b:Nat}{o:AObj}(hb:b<H.length)(st:Stepped E.G I e.K ρ w I ρ ((a01 H).eff H.length (.set b o)) w')
 {nx:Nat}(eJ:nx<N){v:AV}{c:Value}(hv:VRel I w' ρ v c):Now E e N (a32 F (some nx) v) (H.set b (some o)) I ρ (a.put (some nx) c) w':=by
 have hl:(H.set b (some o)).length=H.length:=e7y;refine⟨h.imm,h.map,h.ext.trans h.imm st.ext,st.rel.fewer ?_,by rw[hl];exact h.nrel,?_,by rw[hl];exact h.low,by rw[a2k];exact h.marks.mono (λ_ h=>h) (λc hc=>st.ext.keep c (.inl hc))⟩
 ·exact c29 H (.set b o)
 ·exact(FRel.mono h.frm (λv c hv=>st.vrel hv)).set (by intro s hs;cases hs;exact eJ) hv
theorem d16(ok:EnvOk E){call:FuncId→List AV→a02→Option (AV×a02)}(ag:a3e E call){fid:Nat}{ro:Option Nat}{e:Entry}{N lf:Nat}{keep:Nat→List Nat}{ai:Code}(b3:d81 E call fid ro e N lf keep ai)
 {id:Nat}{an:Array Oper}{it nx:Nat}{kb:List Oper}(eJ:d0w an.toList=some (it,nx,kb)){R:Type}{cur:Nat}(b9:RFOk E fid N keep ro cur ai){k:AExit→Frm→a02→Option R}{r:R}{Q:Exit→Act→World→Prop}
 (hQ:∀x F H I ρ a w,Now E e N F H I ρ a w→k x F H=some r→Q x.conv a w){F:Frm}{H:a02}{I:Nat→Prop}{ρ:PMap}{a:Act}{w:World}(af:Now E e N F H I ρ a w)
 (ae:c3r e.m it (keep cur) (λF H k=>a3k E e.m N keep call lf cur (.seq (.region id an false) ai) F H k) F H k=some r):(Code.loop (.seq (.region id an false) ai)).wpIn (wf ro) 0 E.P Q a w:=by
 obtain⟨o0,cW,cX,jS,jM⟩:∃o0,an.toList=o0::kb∧o0.op = .next (.tmp it) false∧o0.dst=some nx∧o0.guard=none:=by
  unfold d0w at eJ;split at eJ
  ·cases eJ
  ·rename_i o oU he;split at eJ
   ·rename_i qq r8 h1 h2 h3;cases eJ;exact⟨o,he,h1,h2,h3⟩
   ·cases eJ
 unfold c3r at ae;split at ae
 case h_2=>cases ae
 rename_i ks cL;split at ae
 case h_2=>cases ae
 rename_i r0 rs iq;rw[cond_eq_ite]at ae;split at ae
 case isFalse=>cases ae
 rename_i aT;have aS:∀o,o.Perm ks→a4o e.m it (keep cur) ks (λF H k=>a3k E e.m N keep call lf cur (.seq (.region id an false) ai) F H k) [] o F H=some r0:=by
  intro o ho;have hm:=e81 (f:=λo=>a4o e.m it (keep cur) ks (λF H k=>a3k E e.m N keep call lf cur (.seq (.region id an false) ai) F H k) [] o F H) (b4h ho);rw[iq]at hm;rcases e6v.1 hm with h|h
  ·exact h
  ·exact c1j (e6x.1 aT _ h)
 refine b7h (n:=ks.length+1) (λn a w=>∃F H I ρ aH R,Now E e N F H I ρ a w∧R.length+1=n∧(aH++R).Perm ks∧
  ∀o,o.Perm R→a4o e.m it (keep cur) ks (λF H k=>a3k E e.m N keep call lf cur (.seq (.region id an false) ai) F H k) aH o F H=some r0) ?_ ?_ ⟨F,H,I,ρ,[],ks,af,rfl,List.Perm.refl _,aS⟩
 ·rintro n a w ⟨F,H,I,ρ,aH,R,af,hn,ep,aS⟩
  -- the head
  have head:∀{fZ:Option Int} {e' F' H'},b0g e.m it (keep cur) ks aH (λF H k=>a3k E e.m N keep call lf cur (.seq (.region id an false) ai) F H k) fZ F H=some (e',F',H')→
   ∃F1 H1 ρ1 b cD,gcD e.m (keep cur) F H=some (F1,H1)∧Now E e N F1 H1 I ρ1 a w∧a2n F1 it = .ptr b 0 0∧a01 H1 b=some (.miter ks aH cD)∧
    a3k E e.m N keep call lf cur (.seq (.region id an false) ai) F1 (H1.set b (some (.miter ks aH (some fZ)))) (λe F' H'=>some (e,F',H'))=some (e',F',H'):=by
   intro fZ e' F' H' hr;unfold b0g at hr;split at hr
   case h_2=>cases hr
   rename_i F1 H1 hg;split at hr
   case h_2=>cases hr
   rename_i H2 ha;unfold e8b at ha;split at ha
   case h_2=>cases ha
   rename_i b hb;split at ha
   case h_2=>cases ha
   rename_i ie b7 cD cH;rw[cond_eq_ite]at ha;split at ha
   case isFalse=>cases ha
   rename_i hc;simp only[c11,e6l]at hc;obtain⟨rfl,rfl⟩:=hc;cases ha;have c4:=hg;unfold gcD at c4;dsimp only at c4;rw[cond_eq_ite]at c4;split at c4
   case isFalse=>cases c4
   rename_i hc;simp only[c11,e6x,e8m]at hc;cases c4;obtain⟨ρ',fi⟩:=(af.keep (keep cur)).gc (a7u hc.1.1) hc.1.2;exact⟨_,_,ρ',b,cD,hg,fi,hb,cH,hr⟩
  -- one round,after the fc
  have ib:∀{fZ:Option Int} {e':AExit} {F':Frm} {H':a02} {F1:Frm} {H1:a02} {ρ1:PMap} {b:Nat} {cD:Option (Option Int)} {v:AV} {o1:AObj} {c:Value} {w':World},
   Now E e N F1 H1 I ρ1 a w→a2n F1 it = .ptr b 0 0→a01 H1 b=some (.miter ks aH cD)→
   (d11 F1 (H1.set b (some (.miter ks aH (some fZ)))) it=some (v,(H1.set b (some (.miter ks aH (some fZ)))).set b (some o1)))→
   (Instr.next (a.eval (.tmp it)) false o0.type).run E.P w = .ok c w'→Stepped E.G I e.K ρ1 w I ρ1 ((a01 H1).eff H1.length (.set b o1)) w'→VRel I w' ρ1 v c→
   a3k E e.m N keep call lf cur (.seq (.region id an false) ai) F1 (H1.set b (some (.miter ks aH (some fZ)))) (λe F' H'=>some (e,F',H'))=some (e',F',H')→
   ∀{Q':Exit→Act→World→Prop},(∀I ρ a w,Now E e N F' H' I ρ a w→Q' e'.conv a w)→(Code.seq (.region id an false) ai).wpIn (wf ro) 0 E.P Q' a w:=by
   intro fZ e' F' H' F1 H1 ρ1 b cD v o1 c w' bF hb cH fh lx aI hv hr Q' mR;unfold a3k at hr;unfold a3k at hr;rw[eJ]at hr;simp only[Bool.false_or,cond_eq_ite]at hr;split at hr
   case isTrue=>cases hr
   rename_i ak;have ak:nx<N:=by simpa[e6u]using ak
   rw[fh]at hr;simp only[List.set_set]at hr;have km:=bF.step (b6h cH) aI ak hv;refine wpIn_seq (wpIn_region ?_);have aj:List.range an.size=0::List.range' 1 kb.length:=by rw[List.range_eq_range',←e6t,cW,e5l,List.range'_succ]
   rw[aj];have ho:an[0]?=some o0:=by
    have:an.toList[0]?=some o0:=by rw[cW];rfl
    simpa using this
   refine b40 ho (by simp[Region.wanted,jM]) ?_;refine a6v (by rw[cX];intro c hc;cases hc) ?_;have hx:(execOp a.eval o0).run E.P w = .ok (.value c) w':=by
    have:execOp a.eval o0=(do pure (.value (←Instr.next (a.eval (.tmp it)) false o0.type))):=by obtain⟨d,op,ty,pos,after,guard⟩:=o0;simp only at cX;subst cX;rfl
    rw[this];simp[lx]
   rw[hx,Oper.uponIn_value,jS];refine a9p ok ag (an:=an) (k:=λF' H'=>a3k E e.m N keep call lf cur ai F' H' λe F' H'=>some (e,F',H')) ?_ kb 1 _ _ _ _ _ _ _ (by rw[cW];rfl) km hr;intro F H I ρ a w hn hk;refine b3 b9 ?_ hn hk;intro x F H I ρ a w hn hk;cases hk;exact mR I ρ a w hn
  -- what the iterator answers
  have fc:∀{F1:Frm} {H1:a02} {ρ1:PMap} {b:Nat} {cD:Option (Option Int)},Now E e N F1 H1 I ρ1 a w→a2n F1 it = .ptr b 0 0→a01 H1 b=some (.miter ks aH cD)→
   (∃i,i∈ks∧i∉aH∧∃w',(Instr.next (a.eval (.tmp it)) false o0.type).run E.P w = .ok (.tuple #[.bool true,.int .i64 i,.bool true]) w'∧Stepped E.G I e.K ρ1 w I ρ1 ((a01 H1).eff H1.length (.set b (.miter ks (aH++[i]) none))) w')∨
    ((∀i∈ks,i∈aH)∧∃w',(Instr.next (a.eval (.tmp it)) false o0.type).run E.P w = .ok (.tuple #[.bool false]) w'∧Stepped E.G I e.K ρ1 w I ρ1 ((a01 H1).eff H1.length (.set b (.miter ks aH none))) w'):=by
   intro F1 H1 ρ1 b cD bF hb cH;have hp:=bF.frm.2 it;rw[hb]at hp;simp only[VRel]at hp;obtain⟨m,hm,dv⟩:=hp;obtain⟨m',a9,_,_,h0,_⟩:=bF.rel.live b _ cH;obtain rfl:m=m':=z9o (hm.symm.trans a9);have:a.eval (.tmp it) = .pointer (some ⟨m.blk,0,none⟩):=by show a.tmps.getD it undef=_;rw[dv,h0];simp
   rw[this];exact d0z bF.rel cH hm o0.type
  have nodup:∀{H1:a02} {ρ1:PMap} {F1:Frm} {b:Nat} {cD:Option (Option Int)},Now E e N F1 H1 I ρ1 a w→a01 H1 b=some (.miter ks aH cD)→ks.Nodup:=by
   intro H1 ρ1 F1 b cD bF cH;obtain⟨m',a9,_,_,h0,ho⟩:=bF.rel.live b _ cH;rcases ho with ⟨h1,_⟩|⟨c,es,cl,seen,_,_,hs,_⟩
   ·rw[h1];exact List.nodup_nil
   ·exact hs.2.2.1
  have aC:∀{H1:a02} {b:Nat} {cD:Option (Option Int)} (fZ:Option Int),a01 H1 b=some (.miter ks aH cD)→a01 (H1.set b (some (.miter ks aH (some fZ)))) b=some (.miter ks aH (some fZ)):=by intro H1 b cD fZ cH;rw[a9h,e6q ⟨rfl,b6h cH⟩]
  cases R with
  |nil=>
   have h1:=aS [] (List.Perm.refl _);unfold a4o at h1;split at h1
   ·cases h1
   ·rename_i e' F' H' az hr;cases h1;obtain⟨F1,H1,ρ1,b,cD,hg,bF,hb,cH,dJ⟩:=head hr;rcases fc bF hb cH with ⟨i,hi,nG,_⟩|⟨_,w',jq,aI⟩
    ·have:=ep.mem_iff.2 hi;rw[e4t]at this;exact absurd this nG
    ·refine ib (v:=.tuple [.bool false]) (c:=.tuple #[.bool false]) bF hb cH (by unfold d11;rw[hb,];simp only[aC none cH]) jq aI (by simp only[VRel];exact⟨_,rfl,by simp only[VRels];exact⟨_,_,rfl,by simp[VRel],rfl⟩⟩) dJ ?_;intro I ρ a w hn;have hq:=hQ e' F' _ I ρ a w (hn.dropIt it) ae;cases e' with
     |normal=>exact(az rfl).elim
     |exit id=>exact hq
     |ret=>exact hq
   ·cases h1
  |cons x R=>
   have h1:=aS (x::R) (List.Perm.refl _);have iX:∃e' F' H',b0g e.m it (keep cur) ks aH (λF H k=>a3k E e.m N keep call lf cur (.seq (.region id an false) ai) F H k) (some x) F H=some (e',F',H'):=by
    unfold a4o at h1;split at h1
    ·rename_i F' H' hr;exact⟨_,_,_,hr⟩
    ·cases h1
   obtain⟨_,_,_,iX⟩:=iX;obtain⟨F1,H1,ρ1,b,cD,hg,bF,hb,cH,_⟩:=head iX;have bz:=nodup bF cH;rcases fc bF hb cH with ⟨i,hi,nG,w',jq,aI⟩|⟨lZ,_⟩
   ·have rc:i∈x::R:=by
     rcases e7h.1 (ep.mem_iff.2 hi)with h|h
     ·exact absurd h nG
     ·exact h
    have dv:(i::(x::R).erase i).Perm (x::R):=(List.perm_cons_erase rc).symm;have h2:=aS _ dv;unfold a4o at h2;split at h2
    case h_2=>cases h2
    rename_i F' H' hr;obtain⟨sM,rY,ρ1',b',rX,c4,qT,aR,rg,dJ⟩:=head hr;rw[hg]at c4;cases c4;rw[hb]at aR;cases aR;refine ib (v:=.tuple [.bool true,.int .i64 i,.bool true]) (c:=.tuple #[.bool true,.int .i64 i,.bool true]) bF hb cH (by unfold d11;rw[hb];simp only[aC (some i) cH]) jq aI
     (by simp only[VRel];exact⟨_,rfl,by simp only[VRels];exact⟨_,_,rfl,by simp[VRel],_,_,rfl,by simp[VRel],_,_,rfl,by simp[VRel],rfl⟩⟩) dJ ?_
    intro I2 ρ2 a2 w2 gX;refine⟨F',H',I2,ρ2,aH++[i],(x::R).erase i,gX,?_,?_,?_⟩
    ·have:=dv.length_eq;simp only[e5l]at this hn⊢;omega
    ·rw[e4s];exact(dv.append_left aH).trans ep
    ·intro o ho;have h3:=aS (i::o) ((ho.cons i).trans dv);unfold a4o at h3;rw[hr]at h3;exact h3
   ·have hx:x∈ks:=ep.mem_iff.1 (by simp);have io:=ep.nodup_iff.2 bz;rw[List.nodup_append]at io;exact absurd rfl (io.2.2 x (lZ x hx) x (by simp))
 ·rintro a w ⟨F,H,I,ρ,aH,R,_,hn,_⟩
  omega
/-! ### a loop over a function -/
theorem b1n:∀(F:List (Nat×AV)) (s:Nat),b7o F s=a2n F s
 | [],s=>rfl
 |(t,v)::F,s=>by simp only[b7o,a2n,b1n F s]
theorem c54{H:a02}{b:Nat}{st:YSt}(h:e1z H b=some st):∃y F,a01 H b=some (.yloop y F st):=by
 unfold e1z at h;split at h
 ·rename_i y F rZ hb;cases h;exact⟨y,F,hb⟩
 ·cases h
theorem b7f{H H':a02}{b:Nat}{old new:YSt}(h:d4t H b old new=some H'):∃y F,a01 H b=some (.yloop y F old)∧H'=H.set b (some (.yloop y F new)):=by
 unfold d4t at h;split at h
 ·rename_i y F st hb;rw[cond_eq_ite]at h;split at h
  ·rename_i aI;have aI:=of_decide_eq_true aI;subst aI;cases h;exact⟨y,F,hb,rfl⟩
  ·cases h
 ·cases h
theorem Now.yput{e:Entry}{N:Nat}{F:Frm}{H:a02}{I:Nat→Prop}{ρ:PMap}{a:Act}{w:World}(h:Now E e N F H I ρ a w){b y:Nat}{F0:Frm}{old new:YSt}{m:Pl}{r r':Loop}
 (hb:a01 H b=some (.yloop y F0 old))(hm:ρ b=some m)(hr:w.heap[m.blk]?=some (.loop r))(bE:r'.tmps=r.tmps∧r'.params=r.params∧r'.assign=r.assign∧r'.body=r.body)
 (aI:match new with
  |.ready=>r'.state = .ready∧r'.pending=none
  |.busy=>r'.state = .busy
  |.done j=>r'.state = .done∧r'.pending=some (c1q j)):Now E e N F (H.set b (some (.yloop y F0 new))) I ρ a (w.putObj m.blk (.loop r')):=by
 obtain⟨m',a9,cK,eh,ri,r0,h0,h1,h2,h3,h4,h5,h6,h7⟩:=h.rel.live b _ hb;obtain rfl:m=m':=z9o (hm.symm.trans a9);obtain rfl:r=r0:=by rw[hr]at h1;cases h1;rfl
 have ak:=h.rel.dom b m hm;have bP:∀c,I c→(w.putObj m.blk (.loop r')).heap[c]?=w.heap[c]?:=λc hc=>World.putObj_heap_other (λe=>cK (e▸hc));have st:Stepped E.G I e.K ρ w I ρ ((a01 H).eff H.length (.set b (.yloop y F0 new))) (w.putObj m.blk (.loop r')):=by refine a1n h.rel hb hm (by simp) (λc hc=>World.putObj_heap_other hc) rfl rfl rfl ?_;refine⟨ri,r',h0,World.putObj_heap_same ak,by rw[bE.1];exact h2,by rw[bE.2.1];exact h3,by rw[bE.2.2.1];exact h4,by rw[bE.2.2.2];exact h5,λs=>?_,aI⟩;rw[bE.1];exact VRel.mono (λ_ h=>h) bP _ (λ_ _ h=>h) (h6 s)
 have hl:(H.set b (some (AObj.yloop y F0 new))).length=H.length:=e7y;exact⟨h.imm,h.map,h.ext.trans h.imm st.ext,st.rel.fewer (c29 H (.set b (.yloop y F0 new))),by rw[hl];exact h.nrel,FRel.mono h.frm (λv c hv=>st.vrel hv),by rw[hl];exact h.low,h.marks.mono (λ_ h=>h) (λc hc=>st.ext.keep c (.inl hc))⟩
def YSt.jump:YSt→Option Code
 |.done j=>some (c1q j)
 |_=>none
theorem e4n(ok:EnvOk E){call:FuncId→List AV→a02→Option (AV×a02)}(ag:a3e E call){fid:Nat}{e:Entry}{N lf:Nat}{keep:Nat→List Nat}{g:Operand}{ps:Array Tmp}{asg body:Code}
 {R:Type}{cur:Nat}(b9:RFOk E fid N keep none cur (.rangeFunc g ps asg body)){k:AExit→Frm→a02→Option R}{r:R}{Q:Exit→Act→World→Prop}(hQ:∀x F H I ρ a w,Now E e N F H I ρ a w→k x F H=some r→Q x.conv a w)
 {F:Frm}{H:a02}{I:Nat→Prop}{ρ:PMap}{a:Act}{w:World}(af:Now E e N F H I ρ a w)(ae:a3k E e.m N keep call lf cur (.rangeFunc g ps asg body) F H k=some r) :
 (Code.rangeFunc g ps asg body).wpIn (wf none) 0 E.P Q a w:=by
 unfold a3k at ae;split at ae
 case h_2=>cases ae
 rename_i gf fs cs y gB hy;rw[cond_eq_ite]at ae;split at ae
 case isFalse=>cases ae
 rename_i hc;simp only[c11,e7z]at hc;obtain⟨hg,_⟩:=hc;split at ae
 case h_2=>cases ae
 rename_i v H2 σ di;obtain⟨y',ge,iW⟩:=b9.2 (cur,⟨N,ps.toList,asg,body,fid⟩) (by simp[rfs]);rw[hy]at ge;cases ge;have hf:=b21 af.rel af.frm g;rw[gB]at hf;simp only[VRel]at hf;obtain⟨bT,aF,e8,iv,cM⟩:=hf;refine wpIn_rangeFunc (F:=Fence.wide) (λfn _=>?_)
 let rec0:Loop:={ state:=.ready,pending:=none,fn,tmps:=a.tmps,params:=ps,assign:=asg,body,defers:=w.heap.size }
 let w1:World:=w.alloc (.deferred (some []))
 let w2:World:=w1.alloc (.loop rec0)
 let m:Pl:=⟨w.heap.size+1,0,0,0⟩
 let Y:AObj:=.yloop y (a1l (keep cur) F) .ready
 have ij:w1.heap.size=w.heap.size+1:=by simp[w1]
 have ka:Stepped E.G I e.K ρ w (λc=>I c∨c=w.heap.size) ρ (a01 H) w1:=b9d af.rel (ob:=.deferred (some [])) rfl rfl rfl rfl;have aJ:∀b q,ρ b=some q→(ρ.set H.length m) b=some q:=PMap.set_old (af.nrel _ (e6o _));have fg:∀c,c<w1.heap.size→w2.heap[c]?=w1.heap[c]?:=by intro c hc;show(w1.heap.push _)[c]?=_;rw[e9x,e5s (by omega)]
 have mo:Stepped E.G (λc=>I c∨c=w.heap.size) e.K ρ w1 (λc=>I c∨c=w.heap.size) (ρ.set H.length m) ((a01 H).eff H.length (.new Y)) w2:=by
  refine a1y ka.rel (b5k H) (af.nrel _ (e6o _)) (ob:=.loop rec0) rfl rfl rfl rfl ij.symm ?_;refine⟨_,rec0,iW,?_,af.frm.1,rfl,rfl,rfl,λs=>?_,rfl,rfl⟩
  ·have:=World.alloc_heap_new w1 (.loop rec0);rw[ij]at this;exact this
  ·rw[b1n,b2p];split
   ·exact VRel.mono (λc hc=>hc) (λc hc=>fg c (ka.rel.imm c hc)) _ aJ (ka.vrel (af.frm.2 s))
   ·simp[VRel]
 have lb:HRel E.G (λc=>I c∨c=w.heap.size) e.K (ρ.set H.length m) (a01 (H++[some Y])) w2:=mo.rel.fewer (c29 H (.new Y));have gX:NRel (ρ.set H.length m) (H++[some Y]).length:=by intro b hb;simp only[e6k,e5l,e5r]at hb;simp only[PMap.set];rw[e5s (by omega)];exact af.nrel b (by omega)
 have up:∀{v:AV} {c:Value},VRel I w ρ v c→VRel (λc=>I c∨c=w.heap.size) w2 (ρ.set H.length m) v c:=λhv=>mo.vrel (ka.vrel hv);have oR:∀{v:List AV} {c:List Value},VRels I w ρ v c→VRels (λc=>I c∨c=w.heap.size) w2 (ρ.set H.length m) v c:=λhv=>mo.vrels (ka.vrels hv);have aG:VRels (λc=>I c∨c=w.heap.size) w2 (ρ.set H.length m) (fs++[.yfn H.length]++cs) (bT ++ #[Value.func (.yield (w.heap.size+1)) #[] #[]]++aF).toList:=by simp only[Array.toList_append];refine VRels.append (VRels.append (oR iv) ?_) (oR cM);simp only[VRels];exact⟨_,_,rfl,by simp only[VRel];exact⟨m,by simp[PMap.set],rfl⟩,rfl⟩
 have e9:=b07 (ag gf) di lb gX aG;obtain⟨i,hi⟩:=e4v.1 hg;rw[b3i (c45 ok hi)]at e9;have bh:(bT ++ #[Value.func (.yield (w.heap.size+1)) #[] #[]]++aF).toList.toArray=bT ++ #[Value.func (.yield (w.heap.size+1)) #[] #[]]++aF:=by apply e9w;simp
 rw[bh]at e9;refine⟨w.heap.size+1,[{ target:=.collected w.heap.size,args:=#[] }],w2,⟨.fn (.func gf) aF,bT ++ #[Value.func (.yield (w.heap.size+1)) #[] #[]]⟩,w2,gf,_,w2,run_enterLoop_outer fn a.tmps ps asg body,?_,λ_ _=>trivial,?_,λh=>by simp[Fence.wide]at h,callsIn_wide.2 (Calls.mono e9 ?_)⟩
 ·have oo:a.eval (.const (Value.func (.yield (w.heap.size+1)) #[] #[]))=Value.func (.yield (w.heap.size+1)) #[] #[]:=rfl;simp only[resolve,rangeCall,e8,Deferred.ofValue,List.map_toArray,e4r,e5j,oo];rfl
 ·simp only[invoke];exact a39 ok hg _
 rintro en w3 ⟨c,I',ρ',rfl,aA,bU⟩
 rw[e6k,List.length_singleton]at aA
 -- behind the loop
 have fin:∀(st:YSt),e1z H2 H.length=some st→∀(mE:st≠ .busy),∃w4,(Instr.endLoop (w.heap.size+1)).run E.P w3 = .ok st.jump w4∧
  Now E e N F (H2.set H.length none) I' ρ' { a with defers:=[{ target:=.collected w.heap.size,args:=#[] }]++a.defers } w4:=by
  intro st aI mE;obtain⟨y1,F1,hb⟩:=c54 aI;obtain⟨m1,dW,cK,eh,r6,r1,g0,g1,g2,g3,g4,g5,g6,g7⟩:=aA.rel.live _ _ hb;have hm:ρ' H.length=some m:=by rw[aA.map _ (by omega)];simp[PMap.set]
  obtain rfl:m=m1:=z9o (hm.symm.trans dW);have eQ:r1.state≠ .busy∧r1.pending=st.jump:=by
   cases st with
   |ready=>exact⟨by rw[g7.1];simp,g7.2⟩
   |busy=>exact absurd rfl mE
   |done j=>exact⟨by rw[g7.1];simp,g7.2⟩
  have og:=run_endLoop (P:=E.P) g1 eQ.1;refine⟨w3.putObj m.blk (.loop { r1 with state:=.exhausted }),by rw[←eQ.2];exact og,?_⟩;have b4:=aA.low;have rC:H.length<H2.length:=by omega
  have oT:Stepped E.G I' e.K ρ' w3 I' ρ' (a01 (H2.set H.length none)) (w3.putObj m.blk (.loop { r1 with state:=.exhausted })):=by
   refine b7l (c0:=m.blk) (aA.rel.fewer ?_) cK eh ?_ (by simp) (λc hc=>World.putObj_heap_other hc) rfl rfl rfl
   ·intro b o hb;rw[a9h]at hb;split at hb
    ·cases hb
    ·exact hb
   ·intro b o q aR hq he;rw[a9h]at aR;split at aR
    ·cases aR
    ·rename_i az;have:=aA.rel.inj b H.length q m (by simp[aR]) (by simp[hb]) hq hm he;exact az ⟨this.symm,rC⟩
  have fX:∀c,I c→I' c:=λc hc=>aA.imm c (.inl hc);have bK:Ext I e.K w (w3.putObj m.blk (.loop { r1 with state:=.exhausted })):=((ka.ext.trans (λ_ h=>.inl h) mo.ext).trans (λ_ h=>.inl h) aA.ext).trans fX oT.ext;have hρ':∀b q,ρ b=some q→ρ' b=some q:=by
   intro b q hq;have cz:b<H.length:=by
    rcases e84 b H.length with h|h
    ·exact h
    ·rw[af.nrel b h]at hq;cases hq
   rw[aA.map b (by omega)];exact aJ b q hq
  have hl:(H2.set H.length none).length=H2.length:=e7y;refine⟨λc hc=>fX c (af.imm c hc),λb hb=>?_,af.ext.trans af.imm bK,oT.rel,by rw[hl];exact aA.nrel,FRel.mono af.frm (λv c hv=>VRel.mono fX (λc hc=>bK.keep c (.inl hc)) v hρ' hv),by rw[hl];have:=af.low;omega,?_⟩
  ·have:=af.low;rw[aA.map b (by omega)];simp only[PMap.set];rw[e5s (by omega)];exact af.map b hb
  ·obtain⟨rs,q1,q2,q3⟩:=af.marks;refine⟨w.heap.size::rs,by rw[q1];rfl,e8t.2 ⟨λhm=>?_,q2⟩,?_⟩
   ·have:=(e7j.1 (q3 _ hm).2.2).1;omega
   ·intro q hq;rcases e6v.1 hq with rfl|hq
    ·refine⟨aA.imm _ (.inr rfl),af.ext.size,?_⟩;rw[World.putObj_heap_other (by show w.heap.size≠w.heap.size+1;omega),aA.ext.keep _ (.inl (.inr rfl)),fg _ (by omega)];exact World.alloc_heap_new w _
    ·obtain⟨p1,p2,p3⟩:=q3 q hq;exact⟨fX q p1,p2,by rw[bK.keep q (.inl p1)];exact p3⟩
 show rangePost Fence.wide 0 E.P (w.heap.size+1) Q _ (.returned c) w3;split at ae
 ·rename_i aI;obtain⟨w4,h1,h2⟩:=fin _ aI (by simp);exact⟨none,w4,h1,hQ .normal _ _ _ _ _ _ h2 ae⟩
 ·rename_i aI;obtain⟨w4,h1,h2⟩:=fin _ aI (by simp);exact⟨some .ret,w4,h1,wpIn_ret (hQ .ret _ _ _ _ _ _ h2 ae)⟩
 ·rename_i id aI;obtain⟨w4,h1,h2⟩:=fin _ aI (by simp);exact⟨some (.exit id),w4,h1,wpIn_exit (hQ (.exit id) _ _ _ _ _ _ h2 ae)⟩
 ·cases ae
theorem d2n(ok:EnvOk E){call:FuncId→List AV→a02→Option (AV×a02)}(ag:a3e E call){fid:Nat}{ro:Option Nat}{e:Entry}{N lf:Nat}{keep:Nat→List Nat}:∀(c:Code),
 (a2l false c=true→d81 E call fid ro e N lf keep c)∧(∀x r,c = .seq x r→a2l false r=true→d81 E call fid ro e N lf keep r):=by
 intro c
 induction c with
 |skip=>exact⟨λ_ R cur b9 k r Q hQ F H I ρ a w af ae=>wpIn_skip (hQ .normal F H I ρ a w af ae),λ_ _ h=>by cases h⟩
 |label l=>exact⟨λ_ R cur b9 k r Q hQ F H I ρ a w af ae=>wpIn_label (hQ .normal F H I ρ a w af ae),λ_ _ h=>by cases h⟩
 |exit id=>exact⟨λ_ R cur b9 k r Q hQ F H I ρ a w af ae=>wpIn_exit (hQ (.exit id) F H I ρ a w af ae),λ_ _ h=>by cases h⟩
 |ret=>exact⟨λ_ R cur b9 k r Q hQ F H I ρ a w af ae=>wpIn_ret (hQ .ret F H I ρ a w af ae),λ_ _ h=>by cases h⟩
 |region id an ah=>
  refine⟨?_,λ_ _ h=>by cases h⟩;intro aI R cur b9 k r Q hQ F H I ρ a w af ae;have mR:∀F H I ρ a w,Now E e N F H I ρ a w→k .normal F H=some r→Q .normal a w:=λF H I ρ a w h hk=>hQ .normal _ H I ρ a w h hk;unfold a2l at aI;unfold a3k at ae;cases eJ:d0w an.toList with
  |some x=>rw[eJ]at aI;cases aI
  |none=>
   rw[eJ]at aI ae;cases ah with
   |true=>exact b9n (an:=an) ok ag aI mR af ae id
   |false=>refine wpIn_region ?_;have:=a9p (ro:=ro) ok ag (an:=an) mR an.toList 0 [] F H I ρ a w rfl af ae;rw[List.range_eq_range',←e6t];exact this
 |seq x y ihx ihy=>
  refine⟨?_,λ_ _ h hd=>by cases h;exact ihy.1 hd⟩;intro aI R cur b9 k r Q hQ F H I ρ a w af ae;simp only[a2l,c11]at aI;refine wpIn_seq (ihx.1 aI.1 b9.seq1 ?_ af ae);intro x F H I ρ a w hn hk;cases x with
  |normal=>exact ihy.1 aI.2 b9.seq2 hQ hn hk
  |exit id=>exact hQ (.exit id) F H I ρ a w hn hk
  |ret=>exact hQ .ret F H I ρ a w hn hk
 |cond c x y ihx ihy=>
  refine⟨?_,λ_ _ h=>by cases h⟩;intro aI R cur b9 k r Q hQ F H I ρ a w af ae;simp only[a2l,c11]at aI;unfold a3k at ae;split at ae
  case h_2=>cases ae
  rename_i t ht;have hc:=b21 af.rel af.frm c;rw[ht]at hc;simp only[VRel]at hc;cases t
  ·exact wpIn_cond_false hc (ihy.1 aI.2 b9.cond2 hQ af ae)
  ·exact wpIn_cond_true hc (ihx.1 aI.1 b9.cond1 hQ af ae)
 |block id b ih=>
  refine⟨?_,λ_ _ h=>by cases h⟩;intro aI R cur b9 k r Q hQ F H I ρ a w af ae;refine wpIn_block (ih.1 aI b9.block ?_ af ae);intro x F H I ρ a w hn hk;cases x with
  |normal=>exact hQ .normal F H I ρ a w hn hk
  |exit id'=>
   simp only[AExit.conv,Exit.inBlock];dsimp only at hk;rw[cond_eq_ite]at hk;split at hk
   ·rename_i h;rw[e6q (by simpa using h)];exact hQ .normal F H I ρ a w hn hk
   ·rename_i h;rw[e5s (by simpa using h)];exact hQ (.exit id') F H I ρ a w hn hk
  |ret=>exact hQ .ret F H I ρ a w hn hk
 |loop b ih=>
  refine⟨?_,λ_ _ h=>by cases h⟩;intro aI R cur b9 k r Q hQ F H I ρ a w af ae;unfold a2l at aI;unfold a3k at ae;cases cY:a6q b with
  |some it=>
   rw[cY]at aI ae;unfold a6q at cY;split at cY
   case h_2=>cases cY
   rename_i id an ai;obtain⟨⟨qq,nx,kb⟩,h1,h2⟩:=a05 cY;simp only at h2;subst h2;have aI:a2l true (.seq (.region id an false) ai)=true:=aI;simp only[a2l,c11]at aI;exact d16 ok ag (ih.2 _ _ rfl aI.2) h1 b9.loop.seq2 hQ af ae
  |none=>
  rw[cY]at aI ae;refine b7h (n:=lf) (λn a w=>∃F H I ρ,Now E e N F H I ρ a w∧b0x e.m (keep cur) (λF H k=>a3k E e.m N keep call lf cur b F H k) n F H (λx F H=>bif c9m (keep cur)then k x (c0g (e.m+c51 (keep cur)) H F) (b6o (e.m+c51 (keep cur)) H)else k x F H)=some r) ?_ ?_ ⟨F,H,I,ρ,af,ae⟩
  ·rintro n a w ⟨F,H,I,ρ,af,ae⟩
   unfold b0x at ae;dsimp only at ae;rw[cond_eq_ite]at ae;split at ae
   case isFalse=>cases ae
   rename_i hc;simp only[c11,e6x,e8m]at hc;obtain⟨ρ',fi⟩:=(af.keep (keep cur)).gc (a7u hc.1.1) hc.1.2;refine ih.1 aI b9.loop ?_ fi ae;intro x F H I ρ a w hn hk;have hz:∀x,(bif c9m (keep cur)then k x (c0g (e.m+c51 (keep cur)) H F) (b6o (e.m+c51 (keep cur)) H)else k x F H)=some r→Q x.conv a w:=by
    intro x hk;rw[cond_eq_ite]at hk;split at hk
    ·obtain⟨I',ρ',h'⟩:=hn.frz (c51 (keep cur));exact hQ x _ _ I' ρ' a w h' hk
    ·exact hQ x F H I ρ a w hn hk
   cases x with
   |normal=>exact⟨F,H,I,ρ,hn,hk⟩
   |exit id=>exact hz _ hk
   |ret=>exact hz _ hk
  ·rintro a w ⟨F,H,I,ρ,_,ae⟩
   simp[b0x]at ae
 |scope b ih=>
  refine⟨?_,λ_ _ h=>by cases h⟩;intro aI R cur b9 k r Q hQ F H I ρ a w af ae;refine a87 (ih.1 aI b9.scope ?_ af ae);intro x F H I ρ a w hn hk;cases x with
  |normal=>exact hQ .normal F H I ρ a w hn hk
  |exit id=>exact hQ (.exit id) F H I ρ a w hn hk
  |ret=>exact hQ .ret F H I ρ a w hn hk
 |rangeFunc f ps as b=>
  refine⟨λ_ R cur b9 k r Q hQ F H I ρ a w af ae=>?_,λ_ _ h=>by cases h⟩;cases ro with
  |none=>exact e4n ok ag b9 hQ af ae
  |some l=>have:=b9.1 rfl;simp[b3k]at this
 |goto l=>exact⟨λ_ R cur b9 k r Q hQ F H I ρ a w af ae=>by simp[a3k]at ae,λ_ _ h=>by cases h⟩
 |refuse s=>exact⟨λ_ R cur b9 k r Q hQ F H I ρ a w af ae=>by simp[a3k]at ae,λ_ _ h=>by cases h⟩
theorem b6u(ok:EnvOk E){call:FuncId→List AV→a02→Option (AV×a02)}(ag:a3e E call){fid:Nat}{ro:Option Nat}{e:Entry}{N lf:Nat}{keep:Nat→List Nat}{R:Type}(c:Code)(hd:a7h c=true)
 {cur:Nat}(b9:RFOk E fid N keep ro cur c){k:AExit→Frm→a02→Option R}{r:R}{Q:Exit→Act→World→Prop}(hQ:∀x F H I ρ a w,Now E e N F H I ρ a w→k x F H=some r→Q x.conv a w)
 {F:Frm}{H:a02}{I:Nat→Prop}{ρ:PMap}{a:Act}{w:World}(af:Now E e N F H I ρ a w)(ae:a3k E e.m N keep call lf cur c F H k=some r):c.wpIn (wf ro) 0 E.P Q a w:=
 (d2n ok ag c).1 hd b9 hQ af ae
/-! ### a round -/
theorem c25{I:Nat→Prop}{w:World}{ρ:PMap}{N:Nat}:∀{ps:List Nat} {vs:List AV} {cs:List Value} {F:Frm} {t:Array Value},FRel I w ρ N F t→VRels I w ρ vs cs→vs.length=ps.length→(∀p∈ps,p<N)→
 FRel I w ρ N (b9h F ps vs) ((ps.zip cs).foldl (λt (p,c)=>t.setIfInBounds p c) t)
 | [],[],cs,F,t,hF,h,_,_=>by simp only[VRels]at h;subst h;simpa[b9h]using hF
 | [],_::_,_,_,_,_,_,h,_=>by simp at h
 |_::_,[],_,_,_,_,_,h,_=>by simp at h
 |p::ps,v::vs,cs,F,t,hF,h,hl,hp=>by simp only[VRels]at h;obtain⟨c,aF,rfl,h1,h2⟩:=h;simp only[b9h,List.zip_cons_cons,List.foldl_cons];have:=FRel.set (a:={ tmps:=t,defers:=[] }) (d:=some p) hF (λs hs=>by cases hs;exact hp p (by simp)) h1;exact c25 this h2 (by simpa using hl) (λq hq=>hp q (by simp[hq]))
def e1v(E:Env):Prop:=∀y ri,E.G.rnd y=some ri→a7h ri.asg=true∧a7h ri.body=true∧b3k ri.asg=true∧b3k ri.body=true
theorem b9l(ok:EnvOk E)(nw:e1v E){call:FuncId→List AV→a02→Option (AV×a02)}(ag:a3e E call)(lf:Nat):a9i E yId (a7p E call lf):=by
 intro args H v H' ae I K ρ w am rel hn ha;rw[d80];unfold a7p at ae;split at ae
 case h_2=>cases ae
 rename_i b vs;split at ae
 case h_2=>cases ae
 rename_i y F hb;split at ae
 case h_2=>cases ae
 rename_i ri iW;rw[cond_eq_ite]at ae;split at ae
 case isFalse=>cases ae
 rename_i hc;simp only[c11,f08,e6x,e6u]at hc;obtain⟨aj,gn⟩:=hc;simp only[VRels]at ha;obtain⟨c0,mY,rfl,h0,eG⟩:=ha;simp only[VRel]at h0;obtain⟨m,hm,rfl⟩:=h0;obtain⟨m',a9,cK,eh,r7,r,g0,g1,g2,g3,g4,g5,g6,g7⟩:=rel.live b _ hb;obtain rfl:m=m':=z9o (hm.symm.trans a9);rw[iW]at g0;cases g0;obtain⟨d1,d2,d3,d4⟩:=nw y ri iW;have bu:mY.toArray.size=r.params.size:=by have:=VRels.length eG;rw[←e6t (xs:=r.params),g3];simp;omega
 refine⟨m.blk,mY,r.fn,_,r.assign,r.body,rfl,run_yield g1 bu,roundIn_of_wpIn (F:=Fence.wide) trivial ?_⟩;rw[g4]
 let e:Entry:=⟨I,K,ρ,H.length,w⟩
 have oz:b<H.length:=b6h hb;have n7:FRel I w ρ ri.N (b9h F ri.ps vs) ((r.params.zip mY.toArray).foldl (λtmps (t,a)=>tmps.setIfInBounds t a) r.tmps):=by
  have h1:FRel I w ρ ri.N F r.tmps:=⟨g2,λs=>by have:=g6 s;rwa [b1n]at this⟩
  have:=c25 (ps:=ri.ps) h1 eG aj gn;rw[←g3]at this⊢;rw[←Array.foldl_toList,Array.toList_zip];exact this
 have af:Now E e ri.N (b9h F ri.ps vs) H I ρ { tmps:=(r.params.zip mY.toArray).foldl (λtmps (t,a)=>tmps.setIfInBounds t a) r.tmps,defers:=[] } w:=⟨λ_ h=>h,λ_ _=>rfl,Ext.refl _ _ _,rel,hn,n7,e6o _,Marks.nil⟩
 have rf:∀c,b3k c=true→RFOk E ri.fid ri.N (E.keep ri.fid) (some m.blk) 0 c:=λc h=>⟨λ_=>h,λx hx=>by rw[a5k c 0 h]at hx;cases hx⟩
 refine b6u (e:=e) (ro:=some m.blk) ok ag ri.asg d1 (rf _ d3) ?_ af ae;intro x F1 H1 I1 ρ1 a1 w1 bF hk
 -- the record,wherever the run has come to
 have iK:∀{F1 H1 I1 ρ1 a1 w1 y1 F0 st},Now E e ri.N F1 H1 I1 ρ1 a1 w1→a01 H1 b=some (.yloop y1 F0 st)→ρ1 b=some m∧∃r1:Loop,w1.heap[m.blk]?=some (.loop r1)∧(st = .ready→r1.state = .ready):=by
  intro F1 H1 I1 ρ1 a1 w1 y1 F0 st bF cf;have dW:ρ1 b=some m:=by rw[bF.map b oz];exact hm
  obtain⟨m1,q1,_,_,_,r1,_,q2,_,_,_,_,_,q3⟩:=bF.rel.live b _ cf;obtain rfl:m=m1:=z9o (dW.symm.trans q1);exact⟨dW,r1,q2,λe=>by subst e;exact q3.1⟩
 cases x with
 |exit id=>cases hk
 |ret=>cases hk
 |normal=>
  dsimp only at hk;split at hk
  case h_2=>cases hk
  rename_i rY jo;obtain⟨y1,F0,cf,rfl⟩:=b7f jo;obtain⟨dW,r1,dJ,eQ⟩:=iK bF cf;have gX:=bF.yput (new:=.busy) (r':={ r1 with state:=.busy }) cf dW dJ ⟨rfl,rfl,rfl,rfl⟩ rfl;refine⟨_,run_beginRound dJ (eQ rfl),?_⟩;rw[g5];refine b6u (e:=e) (ro:=some m.blk) ok ag ri.body d2 (rf _ d4) ?_ gX hk;intro x F3 H3 I3 ρ3 a3 w3 km hk;have fin:∀(new:YSt) (bb:Bool) (jump:Option Code),jump.isNone=bb→(d4t H3 b .busy new).map (.bool bb,·)=some (v,H')→(match new with
   |.ready=>jump=none
   |.busy=>False
   |.done j=>jump=some (c1q j))→
   ∃v1 w4,(Instr.endRound m.blk jump).run E.P w3 = .ok v1 w4∧∃c I' ρ',Ending.returned v1 = .returned c∧Ret E I K ρ H.length w I' ρ' H' w4∧VRel I' w4 ρ' v c:=by
   intro new bb jump hj hk aO;obtain⟨H4,jo,he⟩:=a05 hk;cases he;obtain⟨y3,F4,mL,rfl⟩:=b7f jo;obtain⟨gY,r3,kg,_⟩:=iK km mL;have iY:=km.yput (new:=new) (r':={ r3 with state:=if jump.isNone then .ready else .done,pending:=jump }) mL gY kg ⟨rfl,rfl,rfl,rfl⟩ (by
    cases new with
    |ready=>dsimp only at aO⊢;subst aO;exact⟨rfl,rfl⟩
    |busy=>exact aO.elim
    |done j=>dsimp only at aO⊢;subst aO;exact⟨rfl,rfl⟩)
   exact⟨_,_,run_endRound jump kg,_,I3,ρ3,rfl,⟨iY.imm,iY.map,iY.ext,iY.rel,iY.nrel,iY.low⟩,by simp only[VRel];rw[hj]⟩
  cases x with
  |normal=>exact fin .ready true none rfl hk rfl
  |ret=>exact fin (.done none) false (some .ret) rfl hk rfl
  |exit id=>exact fin (.done (some id)) false (some (.exit id)) rfl hk rfl
end
end Go.Ax
/- AxFun: functions. -/
namespace Go.Ax
section
variable {E:Env}{I K:Nat→Prop}{ρ:PMap}{h:FHeap}{w:World}
theorem c9a(ok:EnvOk E)(r:HRel E.G I K ρ h w){t:TypeId}{p v:AV}{c:Value}(hl:a5h E h t p=some v)(hp:VRel I w ρ p c) :
 ∃a d,c = .pointer (some a)∧(loadVar t a).run E.P w = .ok d w∧VRel I w ρ v d:=by
 cases p with
 |ptr b i o=>
  simp only[a5h]at hl;cases hb:h b with
  |none=>simp[hb]at hl
  |some ob=>
   cases ob with
   |row k aa=>
    simp only[hb]at hl;cases hr:aa[i]? with
    |none=>simp[hr]at hl
    |some rw'=>
     simp only[hr]at hl;obtain⟨m,hm,_,_,ho⟩:=r.live b _ hb;obtain⟨hk,hk0,_,aw⟩:=ho;obtain⟨aj,cA⟩:=VRows.get i aw hr;simp only[VRel]at hp;obtain⟨m',a9,rfl⟩:=hp;obtain rfl:m=m':=z9o (hm.symm.trans a9);by_cases bu:o≤rw'.length
     ·have gH:VAt I w ρ ((rw'.drop o).take (E.sz t)) m.blk (m.off+i*m.k+o):=by
       rw[hk];exact VAt.take _ (VAt.drop o bu cA)
      obtain⟨c,hc,hv⟩:=a69 ok hl gH;exact⟨_,c,rfl,hc,hv⟩
     ·have:rw'.drop o=[]:=e9v (by omega);rw[this]at hl;unfold a1z at hl;simp only[List.take_nil,e5r]at hl;rw[cond_eq_ite]at hl;split at hl
      ·rename_i h0;cases hd:E.und t with
       |none=>simp[hd]at hl
       |some d=>
        simp only[hd]at hl;have h0:E.sz t=0:=(show 0=E.sz t by simpa using h0).symm;cases cV:a1t d with
        |true=>simp[cV]at hl;subst hl;refine⟨_,.agg #[],rfl,?_,by simp only[VRel];exact⟨#[],rfl,by simp[VRels]⟩⟩;simp[loadVar,b1p ok w hd,cV,a2m ok w hd,h0,loadCells,loadCellsFrom]
        |false=>simp[cV]at hl
      ·cases hl
   |map ks vs bs cl=>simp[hb]at hl
   |siter s pos=>simp[hb]at hl
   |uset ks=>simp[hb]at hl
   |miter ks b7 cD=>simp[hb]at hl
   |yloop y Fy st=>simp[hb]at hl
 |iptr cs=>simp only[a5h]at hl;simp only[VRel]at hp;obtain⟨b,off,rfl,hI,cA⟩:=hp;obtain⟨c,hc,hv⟩:=a69 ok hl (VAt.take _ cA);exact⟨_,c,rfl,hc,VRel.noRef_any hv⟩
 |_=>simp[a5h]at hl
def e2c(tmps:Array Value):ResultVar→Sem Value:=fun
 |.tmp t=>pure (tmps.getD t undef)
 |.cell a t=>do loadVar t (←asAddr (tmps.getD a undef))
theorem a8o(ok:EnvOk E){H:a02}{F:Frm}{tmps:Array Value}(r:HRel E.G I K ρ (a01 H) w)(hF:∀s,VRel I w ρ (a2n F s) (tmps.getD s undef)) :
 ∀(rs:List ResultVar) {vs:List AV},a10 E F H rs=some vs→∃cs:List Value,(rs.mapM (e2c tmps)).run E.P w = .ok cs w∧VRels I w ρ vs cs
 | [],vs,ha=>by simp only[a10,Option.some.injEq]at ha;subst ha;exact⟨[],by simp,by simp[VRels]⟩
 |.tmp t::rs,vs,ha=>by
  unfold a10 at ha;split at ha
  case h_2=>cases ha
  rename_i dj h1;cases ha;obtain⟨cs,h2,h3⟩:=a8o ok r hF rs h1;refine⟨tmps.getD t undef::cs,?_,by simp only[VRels];exact⟨_,_,rfl,hF t,h3⟩⟩;simp only[List.mapM_cons,e2c,Sem.run_bind,Sem.run_pure,Result.andThen_ok,h2]
 |.cell a t::rs,vs,ha=>by
  unfold a10 at ha;split at ha
  case h_2=>cases ha
  rename_i v dj h0 h1;cases ha;obtain⟨cs,h2,h3⟩:=a8o ok r hF rs h1;obtain⟨ad,d,h4,h5,h6⟩:=c9a ok r h0 (hF a);refine⟨d::cs,?_,by simp only[VRels];exact⟨_,_,rfl,h6,h3⟩⟩;simp only[List.mapM_cons,e2c,h4,asAddr,Sem.run_bind,Sem.run_pure,Result.andThen_ok,h2,h5]
theorem c39(ok:EnvOk E){fn:Func}{H:a02}{F:Frm}{tmps:Array Value}(r:HRel E.G I K ρ (a01 H) w)(hF:∀s,VRel I w ρ (a2n F s) (tmps.getD s undef)){vs:List AV}(ha:a10 E F H fn.results.toList=some vs) :
 ∃c,(results fn tmps).run E.P w = .ok c w∧VRel I w ρ (a76 vs) c:=by
 obtain⟨cs,h1,h2⟩:=a8o ok r hF _ ha;have ae:(results fn tmps).run E.P w = .ok (if h:cs.toArray.size=1 then cs.toArray[0]else .tuple cs.toArray) w:=by have:results fn tmps=(do let vs←fn.results.mapM (e2c tmps);pure (if h:vs.size=1 then vs[0]else .tuple vs)):=rfl;rw[this,Array.mapM_eq_mapM_toList];simp only[bind_map_left,Sem.run_bind,h1,Result.andThen_ok,Sem.run_pure]
 refine⟨_,ae,?_⟩
 match vs,cs,h2 with
 | [],cs,h2=>simp only[VRels]at h2;subst h2;simp only[a76,VRel];exact⟨#[],by simp,by simp[VRels]⟩
 | [v],cs,h2=>simp only[VRels]at h2;obtain⟨c,aF,rfl,h3,rfl⟩:=h2;simpa[a76]using h3
 |v::v'::vs,cs,h2=>have iJ:=h2;simp only[VRels]at h2;obtain⟨c,_,rfl,_,c',aF,rfl,_,_⟩:=h2;simp only[a76,VRel];exact⟨_,by simp,iJ⟩
theorem b4y:∀(args:List AV) (i s:Nat),a2n (a4j i args) s=if i≤s then(args[s-i]?).getD .junk else .junk
 | [],i,s=>by simp[a4j,a2n]
 |v::vs,i,s=>by
  simp only[a4j,a2n,c9l,b4y vs (i+1) s];by_cases h:i=s
  ·subst h;simp
  ·rw[e7r.2 h];by_cases h1:i<s
   ·simp only[e6w];rw[e6q (by omega),e6q (by omega),show s-i=(s-(i+1))+1 by omega,e7g]
   ·simp only[e6w];rw[e5s (by omega),e5s (by omega)]
theorem c8h{args:List AV}{am:List Value}{n:Nat}(hn:args.length≤n)(h:VRels I w ρ args am):FRel I w ρ n (a4j 0 args) (am.toArray++Array.replicate (n-am.toArray.size) undef):=by
 have aj:=VRels.length h;refine⟨by simp;omega,λs=>?_⟩;rw[b4y];simp only[e5q,e8f,Nat.sub_zero];cases hs:args[s]? with
 |none=>simp[VRel]
 |some v=>have cU:=(e5k.1 hs).1;obtain⟨c,hc,hv⟩:=VRels.get s h hs;simp only[e7v,e6y];rw[Array.getElem?_append_left (by simp;omega)];simp only[e83,hc,e7v];exact hv
theorem d4a{m:Nat}{v v':AV}{c:Value}{H:a02}(dc:a30 m true (a3w (a01 H) m 12) v=some v')(hm:m≤H.length)(r:HRel E.G I K ρ (a01 H) w)(hn:NRel ρ H.length)(hv:VRel I w ρ v c) :
 ∃I' ρ',(∀c,I c→I' c)∧(∀b,b<m→ρ' b=ρ b)∧HRel E.G I' K ρ' (a01 ((H.take m).map (Option.map (a0d (a15 m))))) w∧NRel ρ' ((H.take m).map (Option.map (a0d (a15 m)))).length∧m≤((H.take m).map (Option.map (a0d (a15 m)))).length∧VRel I' w ρ' v' c:=by
 have aj:((H.take m).map (Option.map (a0d (a15 m)))).length=m:=by simp;omega
 obtain⟨h1,h2⟩:=a93 (h':=a01 ((H.take m).map (Option.map (a0d (a15 m))))) r dc hv (by
  intro b o' hb;simp only[a01,e5n,e9i]at hb;split at hb
  case isFalse=>simp at hb
  rename_i ak;cases hx:H[b]? with
  |none=>rw[hx]at hb;simp at hb
  |some ob=>rw[hx]at hb;simp only[e5p,e8x]at hb;obtain⟨o,rfl,rfl⟩:=a05 hb;exact⟨o,ak,by simp[a01,hx],rfl⟩)
 refine⟨_,_,λ_ h=>.inl h,λb hb=>by simp[PMap.below,hb],h1,?_,by rw[aj];exact e6o _,h2⟩;intro b hb;rw[aj]at hb;simp only[PMap.below];rw[e5s (by omega)]
theorem d65{m:Nat}{v v':AV}{c:Value}{H H':a02}(hf:d46 m v H=some (v',H'))(hm:m≤H.length)(r:HRel E.G I K ρ (a01 H) w)(hn:NRel ρ H.length)(hv:VRel I w ρ v c) :
 ∃I' ρ',(∀c,I c→I' c)∧(∀b,b<m→ρ' b=ρ b)∧HRel E.G I' K ρ' (a01 H') w∧NRel ρ' H'.length∧m≤H'.length∧VRel I' w ρ' v' c:=by
 unfold d46 at hf;split at hf
 case h_2=>cases hf;exact⟨I,ρ,λ_ h=>h,λ_ _=>rfl,r,hn,hm,hv⟩
 case h_3=>cases hf;exact⟨I,ρ,λ_ h=>h,λ_ _=>rfl,r,hn,hm,hv⟩
 case h_4=>cases hf;exact⟨I,ρ,λ_ h=>h,λ_ _=>rfl,r,hn,hm,hv⟩
 case h_5=>cases hf;exact⟨I,ρ,λ_ h=>h,λ_ _=>rfl,r,hn,hm,hv⟩
 case h_6=>cases hf;exact⟨I,ρ,λ_ h=>h,λ_ _=>rfl,r,hn,hm,hv⟩
 case h_7=>cases hf;obtain⟨I',ρ',f⟩:=d4a (v:=.nilslice) (v':=.nilslice) rfl hm r hn hv;exact⟨I',ρ',f⟩
 case h_8=>cases hf
 rename_i b i o;rw[cond_eq_ite]at hf;split at hf
 case isFalse=>cases hf
 rename_i qX;rw[e8m]at qX;split at hf
 case h_2=>cases hf
 rename_i k aa hb;split at hf
 case h_2=>cases hf
 rename_i a6 dc;cases hf;simp only[VRel]at hv;obtain⟨p,hp,rfl⟩:=hv;obtain⟨p',eI,cK,eh,hk,hk0,⟨bD,e,kA,l6,l5⟩,aw⟩:=r.live b _ hb;obtain rfl:p=p':=z9o (hp.symm.trans eI);have mw:∀x,a3b (a01 H) b x=if x=b then none else a01 H x:=by
  intro x;unfold a3b;by_cases h:x=b
  ·subst h;rw[e6q rfl,show Nat.beq x x=true from Nat.beq_refl x];rfl
  ·rw[e5s h,show Nat.beq x b=false from by
    cases hq:Nat.beq x b with
    |false=>rfl
    |true=>exact absurd (e8j hq) h]
   rfl
 have r0:HRel E.G I K ρ (a3b (a01 H) b) w:=r.fewer (λx ob hx=>by
  rw[mw]at hx;split at hx
  ·cases hx
  ·exact hx)
 have aj:((H.take m).map (Option.map (a0d (a15 m)))).length=m:=by simp;omega
 have b4:∀x o',a01 ((H.take m).map (Option.map (a0d (a15 m)))) x=some o'→∃o,x<m∧a3b (a01 H) b x=some o∧o'=a0d (a15 m) o:=by
  intro x o' hx;simp only[a01,e5n,e9i]at hx;split at hx
  case isFalse=>simp at hx
  rename_i ak;cases hxx:H[x]? with
  |none=>rw[hxx]at hx;simp at hx
  |some ob=>rw[hxx]at hx;simp only[e5p,e8x]at hx;obtain⟨o,rfl,rfl⟩:=a05 hx;exact⟨o,ak,by rw[mw,e5s (by omega)];simp[a01,hxx],rfl⟩
 have h1:=(a93 (h':=a01 ((H.take m).map (Option.map (a0d (a15 m))))) r0 (v:=.junk) (v':=.junk) (c:=.nilFunc) (n:=12) (m:=m) rfl (by simp[VRel]) b4).1;have nL:¬a31 I ρ (a3b (a01 H) b) m p.blk:=by
  rintro(hc|⟨b',o',q,aR,dh,hq,he⟩)
  ·exact cK hc
  ·rw[mw]at dh;split at dh
   ·cases dh
   ·rename_i az;exact az (r.inj b' b q p (by simp[dh]) (by simp[hb]) hq hp he)
 have hI:∀c,I c→a31 I ρ (a3b (a01 H) b) m c:=λc hc=>.inl hc;have eW:=c0e hI (a4x r0 12) aa dc aw
 let ρ':PMap:=λx=>if x=m then some p else ρ.below m true x
 have hρ:∀x q,ρ.below m true x=some q→ρ' x=some q:=by
  intro x q hx;have ak:x<m:=by
   simp only[PMap.below]at hx;split at hx
   ·rename_i h;exact h.2
   ·cases hx
  show(if x=m then some p else ρ.below m true x)=some q;rw[e5s (by omega)];exact hx
 have qd:∀x,a01 ((H.take m).map (Option.map (a0d (a15 m)))++[some (.row k a6)]) x=if x=m then some (.row k a6)else a01 ((H.take m).map (Option.map (a0d (a15 m)))) x:=by
  intro x;unfold a01;by_cases hx:x<m
  ·rw[e6j (by rw[aj];exact hx),e5s (by omega)]
  ·rw[e6p (by rw[aj];omega),aj];by_cases fA:x=m
   ·subst fA;rw[e6q rfl,Nat.sub_self];rfl
   ·rw[e5s fA];have e1:([some (AObj.row k a6)]:a02)[x-m]?=none:=e6n (by simp;omega);have e2:((H.take m).map (Option.map (a0d (a15 m))))[x]?=none:=e6n (by rw[aj];omega);rw[e1,e2]
 refine⟨a31 I ρ (a3b (a01 H) b) m,ρ',hI,?_,?_,?_,?_,?_⟩
 ·intro x hx;show(if x=m then some p else ρ.below m true x)=ρ x;rw[e5s (by omega)];simp[PMap.below,hx]
 ·refine⟨?_,?_,?_,h1.imm,h1.kept,h1.apart,?_⟩
  ·intro x ob hx;rw[qd]at hx;split at hx
   ·rename_i fA;cases hx;refine⟨p,by show(if x=m then some p else _)=some p;rw[e6q fA],nL,eh,hk,hk0,⟨bD,e,kA,l6,by rw[a8h dc];exact l5⟩,?_⟩;exact VRows.mono (λ_ h=>h) (λ_ _=>rfl) a6 hρ rfl eW
   ·obtain⟨q,hq,h3,h4,h5⟩:=h1.live x ob hx;exact⟨q,hρ x q hq,h3,h4,ORel.mono ob (λ_ h=>h) (λ_ _=>rfl) hρ rfl h5⟩
  ·intro x y q q' hx hy pk nA he;rw[qd]at hx hy;have low:∀z q,z≠m→(a01 ((H.take m).map (Option.map (a0d (a15 m)))) z).isSome→ρ' z=some q→ρ.below m true z=some q∧z<m∧ρ z=some q∧(a01 H z).isSome:=by
    intro z q hz hs hq;have fD:ρ.below m true z=some q:=by have:(if z=m then some p else ρ.below m true z)=some q:=hq;rw[e5s hz]at this;exact this
    obtain⟨ob,ho⟩:=e4v.1 hs;obtain⟨o1,ak,dk,_⟩:=b4 z ob ho;rw[mw,e5s (by omega)]at dk;refine⟨fD,ak,?_,by rw[dk];rfl⟩;simp only[PMap.below]at fD;rw[e6q ⟨trivial,ak⟩]at fD;exact fD
   by_cases fA:x=m
   ·by_cases jp:y=m
    ·rw[fA,jp]
    ·exfalso;rw[e5s jp]at hy;obtain⟨_,h4,h5,h6⟩:=low y q' jp hy nA;have nB:q=p:=by
      have:(if x=m then some p else ρ.below m true x)=some q:=pk;rw[e6q fA]at this;exact(z9o this).symm
     subst nB;have:=r.inj b y q q' (by simp[hb]) h6 hp h5 he;omega
   ·rw[e5s fA]at hx;obtain⟨h3,h4,h5,h6⟩:=low x q fA hx pk;by_cases jp:y=m
    ·exfalso;have nB:q'=p:=by
      have:(if y=m then some p else ρ.below m true y)=some q':=nA;rw[e6q jp]at this;exact(z9o this).symm
     subst nB;have:=r.inj x b q q' h6 (by simp[hb]) h5 hp he;omega
    ·rw[e5s jp]at hy;obtain⟨g3,_⟩:=low y q' jp hy nA;exact h1.inj x y q q' hx hy h3 g3 he
  ·intro x q hx;have:(if x=m then some p else ρ.below m true x)=some q:=hx;split at this
   ·cases this;exact r.dom b p hp
   ·exact h1.dom x q this
  ·intro g cs hg;exact h1.glob g cs hg
 ·intro x hx;rw[e6k,aj]at hx;simp only[e5l,e5r]at hx;show(if x=m then some p else ρ.below m true x)=none;rw[e5s (by omega)];simp only[PMap.below];rw[e5s (by omega)]
 ·rw[e6k,aj];omega
 ·simp only[VRel];exact⟨p,by show(if m=m then some p else _)=some p;rw[e6q rfl],rfl⟩
theorem c89{thaw:Bool}{m:Nat}{v v':AV}{c:Value}{H H':a02}(hf:a1q thaw m v H=some (v',H'))(hm:m≤H.length)(r:HRel E.G I K ρ (a01 H) w)(hn:NRel ρ H.length)(hv:VRel I w ρ v c) :
 ∃I' ρ',(∀c,I c→I' c)∧(∀b,b<m→ρ' b=ρ b)∧HRel E.G I' K ρ' (a01 H') w∧NRel ρ' H'.length∧m≤H'.length∧VRel I' w ρ' v' c:=by
 unfold a1q at hf;rw[cond_eq_ite]at hf;split at hf
 ·rw[cond_eq_ite]at hf;split at hf
  ·exact d65 hf hm r hn hv
  ·cases hf;exact⟨I,ρ,λ_ h=>h,λ_ _=>rfl,r,hn,hm,hv⟩
 ·split at hf
  case h_2=>cases hf;exact⟨I,ρ,λ_ h=>h,λ_ _=>rfl,r,hn,hm,hv⟩
  rename_i v1 dc;cases hf;exact d4a dc hm r hn hv
end
structure DrOk(E:Env):Prop where
 draws:∀f i,E.fn f=some i→a7h i.code=true
 rf:∀f i,E.fn f=some i→∀x∈rfs i.ntmps f 0 i.code,∃y,yOf (E.keep f x.1)=some y∧E.G.rnd y=some x.2
 rnd:e1v E
 prim:∀f args v H1,E.prim f args=some (v,H1)→a9i E f λa H=>match a,H with
  |a,[]=>E.prim f a
  |_,_=>none
theorem DrOk.code{E:Env}(h:DrOk E){f:FuncId}{i:FInfo}(hi:E.fn f=some i):RFOk E f i.ntmps (E.keep f) none 0 i.code:=⟨λh=>by simp at h,h.rf f i hi⟩
def e5y(E:Env)(g:FuncId)(m:Nat)(rs:List ResultVar):AExit→Frm→a02→Option (AV×a02)
 |.exit _,_,_=>none
 |_,F,H=>match a10 E F H rs with
  |some vs=>a1q (E.thaw g) m (a76 vs) H
  |none=>none
theorem e10{E:Env}(ok:EnvOk E){g:FuncId}{i:FInfo}(hi:E.fn g=some i){args:List AV}{H H':a02}{v:AV}(bf:Nat.ble args.length i.ntmps=true)
 {k:AExit→Frm→a02→Option (AV×a02)}(lH:∀x F1 H1 r,k x F1 H1=some r→e5y E g H.length i.results x F1 H1=some r)
 (lU:∀{e:Entry} {Q:Exit→Act→World→Prop},e.m=H.length→(∀x F1 H1 I ρ a w,Now E e i.ntmps F1 H1 I ρ a w→k x F1 H1=some (v,H')→Q x.conv a w)→
  ∀{I:Nat→Prop} {ρ:PMap} {a:Act} {w:World},Now E e i.ntmps (a4j 0 args) H I ρ a w→i.code.wpIn (wf none) 0 E.P Q a w)
 {I K:Nat→Prop}{ρ:PMap}{w:World}{am:List Value}(rel:HRel E.G I K ρ (a01 H) w)(hn:NRel ρ H.length)(ha:VRels I w ρ args am) :
 XOf E g am w λen w'=>∃c I' ρ',en = .returned c∧Ret E I K ρ H.length w I' ρ' H' w'∧VRel I' w' ρ' v c:=by
 obtain⟨fn,h1,h2,h3,h4,_⟩:=ok.fn g i hi;rw[b3i (c45 ok hi)];refine callsIn_wide.1 (callsIn_of_wp_marks (F:=Fence.wide) (n:=0) h1 h2 trivial ?_);rw[h3]
 let e:Entry:=⟨I,K,ρ,H.length,w⟩
 have af:Now E e i.ntmps (a4j 0 args) H I ρ { tmps:=am.toArray++Array.replicate (i.ntmps-am.toArray.size) undef,defers:=[] } w:=⟨λ_ h=>h,λ_ _=>rfl,Ext.refl _ _ _,rel,hn,c8h (by simpa[e8m]using bf) ha,e6o _,Marks.nil⟩
 refine lU (e:=e) rfl ?_ af;intro x F1 H1 I1 ρ1 a w1 bF hk;have hk:=lH _ _ _ _ hk;have fin:(match a10 E F1 H1 i.results with
  |some vs=>a1q (E.thaw g) H.length (a76 vs) H1
  |none=>none)=some (v,H')→LeavesInM Fence.wide 0 E.P fn a.tmps (λen w'=>∃c I' ρ',en = .returned c∧Ret E I K ρ H.length w I' ρ' H' w'∧VRel I' w' ρ' v c) a.defers .returning w1:=by
  intro hk;split at hk
  case h_2=>cases hk
  rename_i vs eG;rw[←h4]at eG;obtain⟨rs,q1,q2,q3⟩:=bF.marks;rw[q1];refine b0m rs w1 q2 (λr hr=>(q3 r hr).2.2) ?_;obtain⟨s1,s2,s3,s4,s5⟩:=b0f rs w1;have kG:HRel E.G I1 K ρ1 (a01 H1) (a2c rs w1):=HRel.shut bF.rel (S:=(·∈rs)) (λc hc=>⟨(q3 c hc).1,_,(q3 c hc).2.2⟩) s1 s5;have hD:∀c,SameD w1 (a2c rs w1) c:=by
   intro c;by_cases hc:c∈rs
   ·exact .inr ⟨_,(q3 c hc).2.2⟩
   ·exact .inl (s5 c hc)
  have oO:∀s,VRel I1 (a2c rs w1) ρ1 (a2n F1 s) (a.tmps.getD s undef):=λs=>VRel.monoD (λc _=>hD c) _ (bF.frm.2 s);have oP:Ext I K w (a2c rs w1):=by refine⟨by rw[s3];exact bF.ext.os,by rw[s2];exact bF.ext.tape,by rw[s4];exact bF.ext.output,by rw[s1];exact bF.ext.size,λc hc=>?_⟩;have ak:c<w.heap.size:=hc.elim (rel.imm c) (rel.kept c);rw[s5 c (λhm=>by have h:w.heap.size≤c:=(q3 c hm).2.1;omega)];exact bF.ext.keep c hc
  obtain⟨c,hr,hv⟩:=c39 ok kG oO eG;obtain⟨I2,ρ2,f1,f2,f3,f4,f5,f6⟩:=c89 hk bF.low kG bF.nrel hv;exact⟨c,hr,c,I2,ρ2,rfl,⟨λc hc=>f1 c (bF.imm c hc),λb hb=>by rw[f2 b hb];exact bF.map b hb,oP,f3,f4,f5⟩,f6⟩
 cases x with
 |normal=>exact fin hk
 |exit id=>cases hk
 |ret=>exact fin hk
end Go.Ax
/- AxLive: which slots are read from a loop's head on. Definitions only: nothing rests on them. -/
namespace Go.Ax
def d9s:List (Nat×List Nat)→Nat→List Nat
 | [],_=>[]
 |(i,l)::r,j=>bif Nat.beq i j then l else d9s r j
end Go.Ax
/- AxInst: the tables of the evaluator, read off a program. -/
namespace Go.Ax
/-! ### tables that are searched -/
inductive Tab(α:Type) where
 |nil
 |node (l:Tab α)(k:Nat)(v:α)(r:Tab α)
def Tab.get{α:Type}:Tab α→Nat→Option α
 |.nil,_=>none
 |.node l k v r,i=>bif Nat.blt i k then l.get i else bif Nat.beq i k then some v else r.get i
def Tab.all{α:Type}(p:Nat→α→Bool):Tab α→Bool
 |.nil=>true
 |.node l k v r=>p k v&&l.all p&&r.all p
theorem Tab.all_get{α:Type}{p:Nat→α→Bool}:∀{t:Tab α} {i:Nat} {x:α},t.all p=true→t.get i=some x→p i x=true
 |.nil,i,x,_,h=>by simp[Tab.get]at h
 |.node l k v r,i,x,ha,h=>by
  simp only[Tab.all,c11]at ha;simp only[Tab.get,cond_eq_ite]at h;split at h
  ·exact Tab.all_get ha.1.2 h
  ·split at h
   ·rename_i hk;have:i=k:=by simpa using hk
    cases h;subst this;exact ha.1.1
   ·exact Tab.all_get ha.2 h
def Tab.toList{α:Type}:Tab α→List α
 |.nil=>[]
 |.node l _ v r=>l.toList++v::r.toList
def Tab.from{α:Type}:Nat→Tab α→Option Nat
 |lo,.nil=>some lo
 |lo,.node l k _ r=>match l.from lo with
  |some n=>bif Nat.beq n k then r.from (k+1)else none
  |none=>none
theorem Tab.from_len{α:Type}:∀{t:Tab α} {lo n:Nat},t.from lo=some n→n=lo+t.toList.length
 |.nil,lo,n,h=>by simp only[Tab.from,Option.some.injEq]at h;simp[Tab.toList,h]
 |.node l k v r,lo,n,h=>by
  unfold Tab.from at h;split at h
  case h_2=>cases h
  rename_i m hm;rw[cond_eq_ite]at h;split at h
  case isFalse=>cases h
  rename_i hk;have hk:m=k:=by simpa using hk
  have h1:=Tab.from_len hm;have h2:=Tab.from_len h;simp[Tab.toList];omega
theorem Tab.get_from{α:Type}:∀{t:Tab α} {lo n i:Nat} {x:α},t.from lo=some n→t.get i=some x→lo≤i∧t.toList[i-lo]?=some x
 |.nil,lo,n,i,x,_,h=>by simp[Tab.get]at h
 |.node l k v r,lo,n,i,x,hf,h=>by
  unfold Tab.from at hf;split at hf
  case h_2=>cases hf
  rename_i m hm;rw[cond_eq_ite]at hf;split at hf
  case isFalse=>cases hf
  rename_i hk;have hk:m=k:=by simpa using hk
  subst hk;have hl:=Tab.from_len hm;simp only[Tab.get,cond_eq_ite]at h;split at h
  ·rename_i ak;obtain⟨h1,h2⟩:=Tab.get_from hm h;have ak:i<m:=by simpa[e6u]using ak
   refine⟨h1,?_⟩;simp only[Tab.toList];rw[e6j (by omega)];exact h2
  ·split at h
   ·rename_i hk;have:i=m:=by simpa using hk
    cases h;subst this;refine⟨by omega,?_⟩;simp only[Tab.toList];rw[e6p (by omega),show i-lo-l.toList.length=0 by omega];rfl
   ·obtain⟨h1,h2⟩:=Tab.get_from hf h;refine⟨by omega,?_⟩;simp only[Tab.toList];rw[e6p (by omega),show i-lo-l.toList.length=(i-(m+1))+1 by omega,e7g];exact h2
/-! ### the tables of a program -/
def d3l(T:Tab TypeInfo)(t:TypeId):Option TypeDesc:=
 match T.get t with
 |some i=>match i.desc with
  |.named _ u=>match T.get u with
   |some j=>some j.desc
   |none=>none
  |d=>some d
 |none=>none
def d4s(T:Tab TypeInfo)(t:TypeId):Option (List AV):=
 match T.get t with
 |some i=>match i.zero with
  |some z=>bif (d3l T t).isSome&&Nat.beq z.cells.toList.length i.size then some (z.cells.toList.map a36)else none
  |none=>none
 |none=>none
def e18(P:Program)(T:Tab TypeInfo)(t:TypeId):Bool:=
 !(P.eqGuardType P.depth t) && !(P.stoodInHeld t)&&(match T.get t with|some i=>i.comparable|none=>false) &&
  (match d3l T t with|some (.struct fs)=>fs.toList.all (λf=>!(f.name == "_"))|_=>true)
def d3w(T:Tab TypeInfo)(t:Nat)(i:TypeInfo):Bool:=
 match d3l T t,i.zero with
 |some d,some (.agg _)=>a1t d
 |some d,some _=>!(a1t d)
 |_,_=>true
structure Laid where
 P:Program
 T:Tab TypeInfo
 F:Tab Func
 keep:Tab (List (Nat×List Nat))
 eqs:Tab Bool
 G:Nat→Option (List AV)
 thaw:Nat→Bool
 ro:Nat→Bool
 ext:Nat→Bool
 lend:Nat→Bool:=λ_=>false
 prim:Nat→List AV→Option (AV×a02):=λ_ _=>none
 zf:Nat→Bool:=λ_=>false
def Laid.rnd(L:Laid)(y:Nat):Option RInfo:=match L.F.get (y/100000)with
 |some fn=>match fn.body with
  |some c=>b2a (y%100000) (rfs fn.ntmps (y/100000) 0 c)
  |none=>none
 |none=>none
def c1k(keep:Nat→List Nat)(f:Nat)(l:List (Nat×RInfo)):Bool:=a4e (l.map (·.1))&&l.all λx=>Nat.blt x.1 100000&&(match yOf (keep x.1)with|some y=>Nat.beq y (f*100000+x.1)|none=>false)&&a7h x.2.asg&&a7h x.2.body&&b3k x.2.asg&&b3k x.2.body
def Laid.env(L:Laid):Env:={
 P:=L.P
 und:=d3l L.T
 sz:=λt=>match L.T.get t with|some i=>i.size|none=>0
 bytes:=λt=>match L.T.get t with|some i=>i.bytes|none=>0
 zero:=d4s L.T
 eqok:=λt=>match L.eqs.get t with|some b=>b|none=>false
 G:=⟨L.G,L.rnd⟩
 fn:=λf=>match L.F.get f with
  |some fn=>match fn.body with
   |some c=>some ⟨c,fn.ntmps,fn.results.toList⟩
   |none=>none
  |none=>none
 keep:=λf=>match L.keep.get f with|some l=>d9s l|none=>λ_=>[]
 thaw:=L.thaw
 ro:=L.ro
 ext:=λf=>L.ext f||(L.lend f&&(match L.F.get f with|some fn=>fn.body.isSome|none=>false))
 prim:=L.prim
 zf:=L.zf }
structure LaidOk(L:Laid):Prop where
 types:∀i x,L.T.get i=some x→L.P.types[i]?=some x
 funcs:∀i x,L.F.get i=some x→L.P.funcs[i]?=some x
 shape:L.T.all (d3w L.T)=true
 names:L.F.all (λ_ fn=>!(fn.name == "runtime.NumGoroutine"))=true
 eqs:L.eqs.all (λt b=>!b||e18 L.P L.T t)=true
 ext:∀f,L.ext f=true→∃fn,L.P.funcs[f]?=some fn∧fn.body=none∧(fn.name == "runtime.NumGoroutine")=false∧Extern.findNext fn=none∧Extern.find fn=some Extern.BytealgIndexByte.indexByte
 mixed:L.P.follows .mixedOrders=true
 draws:L.F.all (λ_ fn=>match fn.body with|some c=>a7h c|none=>true)=true
 yid:(L.F.get yId).isNone=true
 rf:L.F.all (λf fn=>match fn.body with|some c=>c1k (L.env.keep f) f (rfs fn.ntmps f 0 c)|none=>true)=true
theorem b4x{α:Type}{t:Tab α}{l:List α}{n:Nat}(h1:t.from 0=some n)(h2:t.toList=l):∀i x,t.get i=some x→l.toArray[i]?=some x:=by intro i x h;obtain⟨_,h3⟩:=Tab.get_from h1 h;rw[h2]at h3;simpa using h3
section
variable {L:Laid}(ok:LaidOk L)
include ok
theorem a9w{t:Nat}{i:TypeInfo}(h:L.T.get t=some i):L.P.info? t=some i:=by have h1:=ok.types t i h;have h2:=(e7j.1 h1).1;show(if t<L.P.types.size then L.P.types[t]? else _)=_;rw[e6q h2];exact h1
theorem d3k{t:Nat}{d:TypeDesc}(h:d3l L.T t=some d):L.P.underlying t=some d∧∃i,L.T.get t=some i:=by
 unfold d3l at h;split at h
 case h_2=>cases h
 rename_i i hi;refine⟨?_,i,hi⟩;have h1:=a9w ok hi;unfold Program.underlying;rw[h1];split at h
 ·rename_i nm u hd;split at h
  case h_2=>cases h
  rename_i j hj;cases h;have h2:=a9w ok hj;cases i;simp only at hd;subst hd;simp[h2]
 ·rename_i d' az;cases h;cases i;rename_i dd _ _ _ _ _ _ _ _ _;cases dd<;>first|rfl|exact absurd rfl (az _ _)
theorem LaidOk.envOk:EnvOk L.env:={
 und t d h:=by obtain⟨h1,i,hi⟩:=d3k ok h;exact⟨h1,i,a9w ok hi,by simp[Laid.env,hi],by simp[Laid.env,hi]⟩
 zero t cs h:=by
  have h:d4s L.T t=some cs:=h;unfold d4s at h;split at h
  case h_2=>cases h
  rename_i i hi;split at h
  case h_2=>cases h
  rename_i z hz;rw[cond_eq_ite]at h;split at h
  case isFalse=>cases h
  rename_i hc;simp only[c11,f08]at hc;cases h;refine⟨e4v.1 hc.1,i,z,a9w ok hi,hz,by simp[Laid.env,hi,hc.2],λI w=>a6j _⟩
 zshape t d i z hd hi hz:=by
  obtain⟨_,j,hj⟩:=d3k ok hd;have fk:=a9w ok hj;have:i=j:=z9o (hi.symm.trans fk);subst this;have hs:=Tab.all_get ok.shape hj;have hd:d3l L.T t=some d:=hd;simp only[d3w,hd,hz]at hs;cases z with
  |agg a=>simp only at hs;exact⟨λ_=>⟨a,rfl⟩,λh=>by rw[hs]at h;cases h⟩
  |_=>simp only[e7z]at hs;exact⟨λh=>(by rw[hs]at h;cases h),λ_=>rfl⟩
 eqok t h:=by
  have h:(match L.eqs.get t with|some b=>b|none=>false)=true:=h;split at h
  case h_2=>cases h
  rename_i b hb;subst h;have h:=Tab.all_get ok.eqs hb;simp only[e9t,Bool.false_or,e18,c11,e7z]at h;obtain⟨⟨⟨h1,h2⟩,h3⟩,h4⟩:=h;refine⟨h1,h2,?_,?_⟩
  ·split at h3
   ·rename_i i hi;exact⟨i,a9w ok hi,h3⟩
   ·cases h3
  ·intro fs iv f hf;have iv:d3l L.T t=some (.struct fs):=iv;rw[iv]at h4;simp only[e6x,e7z,e7r]at h4;exact h4 f hf
 fn f i h:=by
  have h:(match L.F.get f with
   |some fn=>match fn.body with
    |some c=>some (⟨c,fn.ntmps,fn.results.toList⟩:FInfo)
    |none=>none
   |none=>none)=some i:=h
  split at h
  case h_2=>cases h
  rename_i fn bN;split at h
  case h_2=>cases h
  rename_i c hc;cases h;have hn:=Tab.all_get ok.names bN;exact⟨fn,ok.funcs f fn bN,hc,rfl,rfl,by simpa using hn⟩
 ext f h bN:=by
  have h:(L.ext f||(L.lend f&&(match L.F.get f with|some fn=>fn.body.isSome|none=>false)))=true:=h;have bN:(match L.F.get f with
   |some fn=>match fn.body with
    |some c=>some (⟨c,fn.ntmps,fn.results.toList⟩:FInfo)
    |none=>none
   |none=>none).isSome=false:=bN
  rcases Bool.or_eq_true_iff.1 h with h|h
  ·exact ok.ext f h
  ·exfalso;have h:=(Bool.and_eq_true_iff.1 h).2;cases hx:L.F.get f with
   |none=>rw[hx]at h;cases h
   |some fn=>
    rw[hx]at h bN;cases hb:fn.body with
    |none=>simp[hb]at h
    |some c=>simp[hb]at bN
 mixed:=ok.mixed
 yid:=by
  have h:=ok.yid;show(match L.F.get yId with
   |some fn=>match fn.body with
    |some c=>some (⟨c,fn.ntmps,fn.results.toList⟩:FInfo)
    |none=>none
   |none=>none)=none
  cases hx:L.F.get yId with
  |none=>rfl
  |some fn=>rw[hx]at h;cases h}
omit ok in
theorem Laid.fn_inv{f:Nat}{i:FInfo}(h:L.env.fn f=some i):∃fn c,L.F.get f=some fn∧fn.body=some c∧i=⟨c,fn.ntmps,fn.results.toList⟩:=by
 have h:(match L.F.get f with
  |some fn=>match fn.body with
   |some c=>some (⟨c,fn.ntmps,fn.results.toList⟩:FInfo)
   |none=>none
  |none=>none)=some i:=h
 split at h
 case h_2=>cases h
 rename_i fn bN;split at h
 case h_2=>cases h
 rename_i c hc;cases h;exact⟨fn,c,bN,hc,rfl⟩
omit ok in
theorem b4o{cur:Nat}{ri:RInfo}:∀{l:List (Nat×RInfo)},b2a cur l=some ri→(cur,ri)∈l
 | [],h=>by simp[b2a]at h
 |(c,r)::l,h=>by
  simp only[b2a,cond_eq_ite]at h;split at h
  ·rename_i hc;have hc:=e8j hc;cases h;subst hc;simp
  ·exact f02 _ (b4o h)
omit ok in
theorem b82{x:Nat×RInfo}:∀{l:List (Nat×RInfo)},(l.map (·.1)).Nodup→x∈l→b2a x.1 l=some x.2
 | [],_,h=>by cases h
 |(c,r)::l,hn,h=>by
  simp only[e4r]at hn;have hn:=e8t.1 hn;simp only[b2a,cond_eq_ite];rcases e6v.1 h with rfl|h
  ·simp
  ·have az:c≠x.1:=λe=>hn.1 (by rw[e];exact e81 h);rw[e5s (by rw[f08];exact az)];exact b82 hn.2 h
theorem LaidOk.good{f:Nat}{fn:Func}{c:Code}(bN:L.F.get f=some fn)(hc:fn.body=some c):c1k (L.env.keep f) f (rfs fn.ntmps f 0 c)=true:=by have:=Tab.all_get ok.rf bN;simpa[hc]using this
def e1w(L:Laid):Prop:=∀f args v H1,L.prim f args=some (v,H1)→a9i L.env f λa H=>match a,H with
 |a,[]=>L.env.prim f a
 |_,_=>none
theorem LaidOk.drawnP(hP:e1w L):DrOk L.env:={
 prim:=hP
 draws f i h:=by obtain⟨fn,c,bN,hc,rfl⟩:=Laid.fn_inv h;have:=Tab.all_get ok.draws bN;simpa[hc]using this
 rf f i h x hx:=by
  obtain⟨fn,c,bN,hc,rfl⟩:=Laid.fn_inv h;have hg:=ok.good bN hc;simp only[c1k,c11,e6x]at hg;have fN:=hg.2 x hx;obtain⟨⟨⟨⟨⟨h1,h2⟩,_⟩,_⟩,_⟩,_⟩:=fN;split at h2
  case h_2=>cases h2
  rename_i y hy;have h2:=e8j h2;have h1:x.1<100000:=by simpa[e6u]using h1
  refine⟨y,hy,?_⟩;show L.rnd y=some x.2;have e1:y/100000=f:=by omega
  have e2:y%100000=x.1:=by omega
  unfold Laid.rnd;rw[e1,e2,bN];simp only[hc];exact b82 (a7u hg.1) hx
 rnd y ri h:=by
  have h:L.rnd y=some ri:=h;unfold Laid.rnd at h;split at h
  case h_2=>cases h
  rename_i fn bN;split at h
  case h_2=>cases h
  rename_i c hc;have hg:=ok.good bN hc;simp only[c1k,c11,e6x]at hg;have fN:=hg.2 _ (b4o h);exact⟨fN.1.1.1.2,fN.1.1.2,fN.1.2,fN.2⟩}
theorem LaidOk.drawn(hP:∀f args,L.prim f args=none:=by intros;rfl):DrOk L.env:=ok.drawnP λf args v H1 h=>by rw[hP]at h;cases h
end
end Go.Ax
/- AxZ0: a function whose own memory is frozen behind each of its outermost statements: the run of its body. -/
namespace Go.Ax
def d7p(E:Env)(m0 N:Nat)(keep:Nat→List Nat)(call:FuncId→List AV→a02→Option (AV×a02))(lf:Nat){R:Type}:Nat→Code→Frm→a02→(AExit→Frm→a02→Option R)→Option R
 |cur,.seq a b,F,H,k=>d7p E m0 N keep call lf cur a F H λe F' H'=>match e with
  |.normal=>d7p E m0 N keep call lf cur b (c0g m0 H' F') (b6o m0 H') k
  |e=>k e F' H'
 |cur,c,F,H,k=>a3k E m0 N keep call lf cur c F H k
theorem d2o{E:Env}(ok:EnvOk E){call:FuncId→List AV→a02→Option (AV×a02)}(ag:a3e E call){fid:Nat}{e:Entry}{N lf:Nat}{keep:Nat→List Nat}{R:Type}:∀(c:Code),a7h c=true→
 ∀{cur:Nat},RFOk E fid N keep none cur c→∀{k:AExit→Frm→a02→Option R} {r:R} {Q:Exit→Act→World→Prop},(∀x F H I ρ a w,Now E e N F H I ρ a w→k x F H=some r→Q x.conv a w)→
 ∀{F:Frm} {H:a02} {I:Nat→Prop} {ρ:PMap} {a:Act} {w:World},Now E e N F H I ρ a w→d7p E e.m N keep call lf cur c F H k=some r→c.wpIn (wf none) 0 E.P Q a w:=by
 intro c
 induction c with
 |seq x y ihx ihy=>
  intro aI cur b9 k r Q hQ F H I ρ a w af ae;have aI:a2l false (.seq x y)=true:=aI;simp only[a2l,c11]at aI;refine wpIn_seq (ihx aI.1 b9.seq1 ?_ af ae);intro x F H I ρ a w hn hk;cases x with
  |normal=>obtain⟨I',ρ',h'⟩:=hn.frz 0;exact ihy aI.2 b9.seq2 hQ h' hk
  |exit id=>exact hQ (.exit id) F H I ρ a w hn hk
  |ret=>exact hQ .ret F H I ρ a w hn hk
 |_=>intro aI cur b9 k r Q hQ F H I ρ a w af ae;exact b6u (ro:=none) ok ag _ aI b9 hQ af ae
def e3o(E:Env)(z:Bool)(m0 N:Nat)(keep:Nat→List Nat)(call:FuncId→List AV→a02→Option (AV×a02))(lf:Nat){R:Type}(cur:Nat)(c:Code)(F:Frm)(H:a02)(k:AExit→Frm→a02→Option R):Option R:=bif z then d7p E m0 N keep call lf cur c F H k else a3k E m0 N keep call lf cur c F H k
end Go.Ax
/- AxMemo: calls whose answer is known already. -/
namespace Go.Ax
def d8t:List UInt8→List UInt8→Bool
 | [],[]=>true
 |a::r,b::s=>Nat.beq a.toNat b.toNat&&d8t r s
 |_,_=>false
theorem c8g:∀{a b:List UInt8},d8t a b=true→a=b
 | [],[],_=>rfl
 | [],_::_,h=>by simp[d8t]at h
 |_::_,[],h=>by simp[d8t]at h
 |a::r,b::s,h=>by simp only[d8t,c11,f08]at h;rw[c8g h.2,UInt8.toNat_inj.1 h.1]
def eqO:Option Nat→Option Nat→Bool
 |none,none=>true
 |some a,some b=>Nat.beq a b
 |_,_=>false
theorem e1a{a b:Option Nat}(h:eqO a b=true):a=b:=by cases a<;>cases b<;>simp_all[eqO]
def eqI:Int→Int→Bool
 |.ofNat a,.ofNat b=>Nat.beq a b
 |.negSucc a,.negSucc b=>Nat.beq a b
 |_,_=>false
theorem e1b{a b:Int}(h:eqI a b=true):a=b:=by cases a<;>cases b<;>simp_all[eqI]
mutual
def eqV:AV→AV→Bool
 |.bool a,.bool b=>match a,b with|true,true=>true|false,false=>true|_,_=>false
 |.int k n,.int k' n'=>decide (k=k')&&eqI n n'
 |.str s,.str t=>d8t s t
 |.nilptr,.nilptr=>true
 |.nilslice,.nilslice=>true
 |.nilmap,.nilmap=>true
 |.nilfunc,.nilfunc=>true
 |.nilifc,.nilifc=>true
 |.iptr cs,.iptr ds=>eqL cs ds
 |.islice r c,.islice r' c'=>eqO c c'&&eqR r r'
 |.agg cs,.agg ds=>eqL cs ds
 |.tuple cs,.tuple ds=>eqL cs ds
 |.iset a,.iset b=>decide (a=b)
 |_,_=>false
def eqL:List AV→List AV→Bool
 | [],[]=>true
 |a::r,b::s=>eqV a b&&eqL r s
 |_,_=>false
def eqR:List (List AV)→List (List AV)→Bool
 | [],[]=>true
 |a::r,b::s=>eqL a b&&eqR r s
 |_,_=>false
end
mutual
theorem e19:∀(a b:AV),eqV a b=true→a=b
 |.bool a,b,h=>by cases b<;>simp only[eqV]at h<;>first|(cases h;done)|(split at h<;>first|rfl|cases h)
 |.int k n,b,h=>by
  cases b<;>simp only[eqV]at h<;>first|(cases h;done)|skip
  simp only[c11,e6l]at h;rw[h.1,e1b h.2]
 |.str s,b,h=>by cases b<;>simp only[eqV]at h<;>first|(cases h;done)|rw[c8g h]
 |.nilptr,b,h=>by cases b<;>simp only[eqV]at h<;>first|rfl|(cases h;done)
 |.nilslice,b,h=>by cases b<;>simp only[eqV]at h<;>first|rfl|(cases h;done)
 |.nilmap,b,h=>by cases b<;>simp only[eqV]at h<;>first|rfl|(cases h;done)
 |.nilfunc,b,h=>by cases b<;>simp only[eqV]at h<;>first|rfl|(cases h;done)
 |.nilifc,b,h=>by cases b<;>simp only[eqV]at h<;>first|rfl|(cases h;done)
 |.iptr cs,b,h=>by cases b<;>simp only[eqV]at h<;>first|(cases h;done)|rw[b56 _ _ h]
 |.islice r c,b,h=>by
  cases b<;>simp only[eqV]at h<;>first|(cases h;done)|skip
  simp only[c11]at h;rw[e1a h.1,d4d _ _ h.2]
 |.agg cs,b,h=>by cases b<;>simp only[eqV]at h<;>first|(cases h;done)|rw[b56 _ _ h]
 |.tuple cs,b,h=>by cases b<;>simp only[eqV]at h<;>first|(cases h;done)|rw[b56 _ _ h]
 |.junk,b,h=>by simp[eqV]at h
 |.ptr ..,b,h=>by simp[eqV]at h
 |.slice ..,b,h=>by simp[eqV]at h
 |.map ..,b,h=>by simp[eqV]at h
 |.yfn ..,b,h=>by simp[eqV]at h
 |.imap ..,b,h=>by simp[eqV]at h
 |.iset a,b,h=>by cases b<;>simp only[eqV]at h<;>first|(cases h;done)|rw[of_decide_eq_true h]
 |.func ..,b,h=>by simp[eqV]at h
 |.iface ..,b,h=>by simp[eqV]at h
theorem b56:∀(a b:List AV),eqL a b=true→a=b
 | [],b,h=>by cases b<;>simp[eqL]at h<;>rfl
 |x::r,b,h=>by
  cases b<;>simp only[eqL]at h
  ·cases h
  ·simp only[c11]at h;rw[e19 _ _ h.1,b56 _ _ h.2]
theorem d4d:∀(a b:List (List AV)),eqR a b=true→a=b
 | [],b,h=>by cases b<;>simp[eqR]at h<;>rfl
 |x::r,b,h=>by
  cases b<;>simp only[eqR]at h
  ·cases h
  ·simp only[c11]at h;rw[b56 _ _ h.1,d4d _ _ h.2]
end
structure Fact where
 g:Nat
 args:List AV
 v:AV
def d4p(E:Env)(x:Fact):Prop:=
 ∀(I K:Nat→Prop) (ρ:PMap) (w:World) (am:List Value),HRel E.G I K ρ (a01 []) w→NRel ρ 0→VRels I w ρ x.args am→
  XOf E x.g am w λen w'=>∃c I' ρ',en = .returned c∧Ret E I K ρ 0 w I' ρ' [] w'∧VRel I' w' ρ' x.v c
def d9t:List Fact→FuncId→List AV→Option AV
 | [],_,_=>none
 |x::r,g,args=>bif Nat.beq x.g g&&eqL x.args args then some x.v else d9t r g args
def e53(M:List Fact)(call:FuncId→List AV→a02→Option (AV×a02))(g:FuncId)(args:List AV)(H:a02):Option (AV×a02):=
 match H with
 | []=>match d9t M g args with
  |some v=>some (v,[])
  |none=>call g args []
 |b::r=>call g args (b::r)
def d0q(E:Env)(f:FuncId)(args:List AV)(H:a02):Option (AV×a02):=match H with
 | []=>E.prim f args
 |_=>none
def b0w(E:Env)(call:FuncId→List AV→a02→Option (AV×a02))(lf:Nat)(f:FuncId)(args:List AV)(H:a02):Option (AV×a02):=
 match d0q E f args H with
 |some r=>some r
 |none=>match E.fn f with
 |none=>bif Nat.beq f yId then a7p E call lf args H else none
 |some i=>bif Nat.ble args.length i.ntmps then
  e3o E (E.zf f) H.length i.ntmps (E.keep f) call lf 0 i.code (a4j 0 args) H λe F' H'=>match e with
   |.exit _=>none
   |_=>match a10 E F' H' i.results with
    |some vs=>a1q (E.thaw f) H.length (a76 vs) H'
    |none=>none
  else none
def c6u(E:Env)(M:List Fact):Nat→FuncId→List AV→a02→Option (AV×a02)
 |0,_,_,_=>none
 |n+1,f,args,H=>e53 M (b0w E (c6u E M n) (n+1)) f args H
theorem d0i{E:Env}(ok:EnvOk E)(hU:DrOk E){call:FuncId→List AV→a02→Option (AV×a02)}(ag:a3e E call)(lf:Nat):a3e E (b0w E call lf):=by
 intro g args H v H' ae I K ρ w am rel hn ha;unfold b0w at ae;split at ae
 ·rename_i r hp;cases ae;unfold d0q at hp;split at hp
  case h_2=>cases hp
  exact hU.prim g args v H' hp args [] v H' (by simpa using hp) I K ρ w am rel hn ha
 split at ae
 ·rw[cond_eq_ite]at ae;split at ae
  case isFalse=>cases ae
  rename_i hg;have hg:=e8j hg;subst hg;exact b9l ok hU.rnd ag lf args H v H' ae I K ρ w am rel hn ha
 rename_i i hi;rw[cond_eq_ite]at ae;split at ae
 case isFalse=>cases ae
 rename_i bf;refine e10 ok hi bf (k:=λe F' H'=>match e with
  |.exit _=>none
  |_=>match a10 E F' H' i.results with
   |some vs=>a1q (E.thaw g) H.length (a76 vs) H'
   |none=>none) (λx F1 H1 r h=>by cases x<;>exact h) ?_ rel hn ha
 intro e Q he hQ I ρ a w af;unfold e3o at ae;cases hz:E.zf g with
 |true=>rw[hz,e6m]at ae;refine d2o (e:=e) (lf:=lf) ok ag i.code (hU.draws g i hi) (hU.code hi) hQ af ?_;rw[he];exact ae
 |false=>rw[hz,e6w]at ae;refine b6u (e:=e) (ro:=none) (lf:=lf) ok ag i.code (hU.draws g i hi) (hU.code hi) hQ af ?_;rw[he];exact ae
end Go.Ax
