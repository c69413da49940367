/- AxSame: values and objects, compared. -/
import Derived.Test.YtmiegcjnimlbmaaGreatDoorAxA
import Derived.Lib.Bytealg
import Derived.RangeFuncRecord
import Derived.Scope
import Derived.LoopNIn
import Derived.Orders
import Derived.OrdersIn
set_option linter.unusedSimpArgs false
set_option linter.unusedVariables false
namespace Go.Ax
mutual
def a93:AV→AV→Bool
 |.junk,.junk=>true
 |.bool a,.bool b=>a==b
 |.int k a,.int k' b=>decide (k=k')&&decide (a=b)
 |.str a,.str b=>decide (a=b)
 |.nilptr,.nilptr=>true
 |.nilslice,.nilslice=>true
 |.nilmap,.nilmap=>true
 |.nilfunc,.nilfunc=>true
 |.nilifc,.nilifc=>true
 |.ptr a b c,.ptr d e f=>decide (a=d)&&(decide (b=e)&&decide (c=f))
 |.iptr a,.iptr b=>a7q a b
 |.slice a b c d,.slice e f g h=>decide (a=e)&&(decide (b=f)&&(decide (c=g)&&decide (d=h)))
 |.islice r c,.islice s d=>b70 r s&&decide (c=d)
 |.map a,.map b=>decide (a=b)
 |.imap a b c d,.imap e f g h=>a7q a e&&(a7q b f&&(decide (c=g)&&decide (d=h)))
 |.iset a,.iset b=>decide (a=b)
 |.yfn a,.yfn b=>decide (a=b)
 |.func f a b,.func g c d=>decide (f=g)&&(a7q a c&&a7q b d)
 |.iface t x,.iface u y=>decide (t=u)&&a93 x y
 |.agg a,.agg b=>a7q a b
 |.tuple a,.tuple b=>a7q a b
 |_,_=>false
def a7q:List AV→List AV→Bool
 | [],[]=>true
 |x::xs,y::ys=>a93 x y&&a7q xs ys
 |_,_=>false
def b70:List (List AV)→List (List AV)→Bool
 | [],[]=>true
 |x::xs,y::ys=>a7q x y&&b70 xs ys
 |_,_=>false
end
mutual
theorem b6y:∀(a b:AV),a93 a b=true→a=b
 |a,b,h=>by
  cases a<;>cases b<;>simp only[a93,e7h,e9j,f2p,f0s]at h
  case junk.junk=>rfl
  case bool.bool=>rw[h]
  case int.int=>rw[h.1,h.2]
  case str.str=>rw[h]
  case nilptr.nilptr=>rfl
  case nilslice.nilslice=>rfl
  case nilmap.nilmap=>rfl
  case nilfunc.nilfunc=>rfl
  case nilifc.nilifc=>rfl
  case ptr.ptr=>rw[h.1,h.2.1,h.2.2]
  case iptr.iptr=>rw[a44 _ _ h]
  case slice.slice=>rw[h.1,h.2.1,h.2.2.1,h.2.2.2]
  case islice.islice=>rw[b6z _ _ h.1,h.2]
  case map.map=>rw[h]
  case imap.imap=>rw[a44 _ _ h.1,a44 _ _ h.2.1,h.2.2.1,h.2.2.2]
  case iset.iset=>rw[h]
  case yfn.yfn=>rw[h]
  case func.func=>rw[h.1,a44 _ _ h.2.1,a44 _ _ h.2.2]
  case iface.iface=>rw[h.1,b6y _ _ h.2]
  case agg.agg=>rw[a44 _ _ h]
  case tuple.tuple=>rw[a44 _ _ h]
theorem a44:∀(a b:List AV),a7q a b=true→a=b
 | [],[],_=>rfl
 |x::xs,y::ys,h=>by simp only[a7q,e7h]at h;rw[b6y x y h.1,a44 xs ys h.2]
 | [],_::_,h=>by simp[a7q]at h
 |_::_,[],h=>by simp[a7q]at h
theorem b6z:∀(a b:List (List AV)),b70 a b=true→a=b
 | [],[],_=>rfl
 |x::xs,y::ys,h=>by simp only[b70,e7h]at h;rw[a44 x y h.1,b6z xs ys h.2]
 | [],_::_,h=>by simp[b70]at h
 |_::_,[],h=>by simp[b70]at h
end
mutual
theorem b0d:∀(a:AV),a93 a a=true
 |.junk|.bool _|.int _ _|.str _|.nilptr|.nilslice|.nilmap|.nilfunc|.nilifc|.ptr _ _ _|.slice _ _ _ _|.map _|.yfn _=>by simp[a93]
 |.iptr a=>by simp only[a93];exact a2w a
 |.islice r c=>by simp only[a93,b0e r,f3b,f1e]
 |.imap a b c d=>by simp only[a93,a2w a,a2w b,f3b,f1e]
 |.iset a=>by simp only[a93,f3b]
 |.func f a b=>by simp only[a93,a2w a,a2w b,f3b,f1e]
 |.iface t x=>by simp only[a93,b0d x,f3b,f1e]
 |.agg a=>by simp only[a93];exact a2w a
 |.tuple a=>by simp only[a93];exact a2w a
theorem a2w:∀(a:List AV),a7q a a=true
 | []=>rfl
 |x::xs=>by simp only[a7q,b0d x,a2w xs,f1e]
theorem b0e:∀(a:List (List AV)),b70 a a=true
 | []=>rfl
 |x::xs=>by simp only[b70,a2w x,b0e xs,f1e]
end
def b72:List (Nat×AV)→List (Nat×AV)→Bool
 | [],[]=>true
 |(s,v)::F,(t,u)::G=>Nat.beq s t&&(a93 v u&&b72 F G)
 |_,_=>false
theorem b71:∀{F G:List (Nat×AV)},b72 F G=true→F=G
 | [],[],_=>rfl
 |(s,v)::F,(t,u)::G,h=>by simp only[b72,e7h,f4h]at h;rw[h.1,b6y _ _ h.2.1,b71 h.2.2]
 | [],_::_,h=>by simp[b72]at h
 |_::_,[],h=>by simp[b72]at h
theorem b5c:∀F:List (Nat×AV),b72 F F=true
 | []=>rfl
 |(s,v)::F=>by simp only[b72,b0d,b5c F,Nat.beq_refl,f1e]
def b1n:Option AObj→Option AObj→Bool
 |none,none=>true
 |some (.row k r),some (.row l s)=>decide (k=l)&&b70 r s
 |some (.map a b c d),some (.map e f g h)=>a7q a e&&(a7q b f&&(decide (c=g)&&decide (d=h)))
 |some (.siter s p),some (.siter t q)=>decide (s=t)&&decide (p=q)
 |some (.uset a),some (.uset b)=>decide (a=b)
 |some (.miter a b c),some (.miter d e f)=>decide (a=d)&&(decide (b=e)&&decide (c=f))
 |some (.yloop a b c),some (.yloop d e f)=>decide (a=d)&&(b72 b e&&decide (c=f))
 |_,_=>false
theorem c30(a b:Option AObj)(h:b1n a b=true):a=b:=by
 unfold b1n at h;split at h
 ·rfl
 ·simp only[e7h,e9j]at h;rw[h.1,b6z _ _ h.2]
 ·simp only[e7h,e9j]at h;rw[a44 _ _ h.1,a44 _ _ h.2.1,h.2.2.1,h.2.2.2]
 ·simp only[e7h,e9j]at h;rw[h.1,h.2]
 ·simp only[e9j]at h;rw[h]
 ·simp only[e7h,e9j]at h;rw[h.1,h.2.1,h.2.2]
 ·simp only[e7h,e9j]at h;rw[h.1,b71 h.2.1,h.2.2]
 ·cases h
@[go_sem] theorem e0o(a:Option AObj):b1n a a=true:=by
 cases a with
 |none=>rfl
 |some o=>cases o with
  |row k r=>simp only[b1n,b0e,f3b,f1e]
  |map a b c d=>simp only[b1n,a2w,f3b,f1e]
  |siter s p=>simp only[b1n,f3b,f1e]
  |uset a=>simp only[b1n,f3b]
  |miter a b c=>simp only[b1n,f3b,f1e]
  |yloop a b c=>simp only[b1n,b5c,f3b,f1e]
end Go.Ax
/- AxRun: the evaluator: operations in a row, statements, calls. Definitions only. -/
namespace Go.Ax
def a02(H:a03):FHeap:=λb=>(H[b]?).join
def b0x(H:a03):Eff→a03
 |.none=>H
 |.new o=>H++[some o]
 |.set b o=>H.set b (some o)
 |.kill b o=>H.set b none++[some o]
/-! ### what a value refers to -/
mutual
def refs:AV→List Nat
 |.ptr b _ _=>[b]
 |.slice b _ _ _=>[b]
 |.map b=>[b]
 |.yfn b=>[b]
 |.func _ fs cs=>a0d fs++a0d cs
 |.iface _ x=>refs x
 |.agg cs=>a0d cs
 |.tuple cs=>a0d cs
 |.junk|.bool _|.int ..|.str _|.nilptr|.nilslice|.nilmap|.nilfunc|.nilifc|.iptr _|.islice ..|.imap ..|.iset _=>[]
def a0d:List AV→List Nat
 | []=>[]
 |v::vs=>refs v++a0d vs
end
def d2r:List (Nat×AV)→List Nat
 | []=>[]
 |(_,v)::r=>refs v++d2r r
theorem c82{F:List (Nat×AV)}{x:Nat×AV}(hx:x∈F){c:Nat}(hc:c∈refs x.2):c∈d2r F:=by
 induction F with
 |nil=>cases hx
 |cons y F ih=>
  simp only[d2r,e9s];rcases e9m.1 hx with rfl|hx
  ·exact .inl hc
  ·exact .inr (ih hx)
def a0y:Option AObj→List Nat
 |some (.yloop _ F _)=>d2r F
 |some (.row _ aa)=>aa.flatMap a0d
 |some (.map ks vs _ _)=>a0d ks++a0d vs
 |_=>[]
def a0s:List Nat→Nat→Bool
 | [],_=>false
 |a::r,x=>bif Nat.beq a x then true else a0s r x
theorem a1u{l:List Nat}{x:Nat}:a0s l x=true↔x∈l:=by
 induction l with
 |nil=>simp[a0s]
 |cons a r ih=>
  simp only[a0s,d1q,cond_eq_ite,e9m];by_cases h:a=x
  ·simp[h]
  ·simp only[f0q.2 h,f0s,f3w,ih];exact⟨.inr,λh'=>h'.resolve_left (λe=>h e.symm)⟩
def a1t(H:a03):Nat→List Nat→List Nat→List Nat
 |0,_,aJ=>aJ.reverse
 |_+1,[],aJ=>aJ.reverse
 |n+1,b::todo,aJ=>bif a0s aJ b then a1t H n todo aJ else a1t H n (a0y (a02 H b)++todo) (b::aJ)
def a35:Nat:=1000000
/-! ### renaming a heap -/
def a8o(σ:List Nat):Nat→Option Nat:=λb=>σ.idxOf? b
def a4z(H:a03)(σ:List Nat)(π:Nat→Option Nat):a03:=σ.map λb=>(a02 H b).map (a0e π)
def a18(σ:List Nat)(n:Nat):Nat→Option Nat:=λj=>bif Nat.blt j σ.length then σ[j]? else some (n+(j-σ.length))
def a13(σ:List Nat)(n:Nat)(H1:a03):Nat→a03→a03
 |_,[]=>[]
 |b,o::r=>(match σ.idxOf? b with
  |some j=>(a02 H1 j).map (a0e (a18 σ n))
  |none=>o)::a13 σ n H1 (b+1) r
def a51:List Nat→Bool
 | []=>true
 |b::r=>!(a0s r b)&&a51 r
def a2f(run:List AV→a03→Option (AV×a03))(args:List AV)(H:a03):Option (AV×a03×List Nat):=
 let σ:=a1t H a35 (a0d args) []
 bif a51 σ&&σ.all (λb=>Nat.blt b H.length)then
  match run (args.map (ren (a8o σ))) (a4z H σ (a8o σ))with
  |some (v,H1)=>some (ren (a18 σ H.length) v,a13 σ H.length H1 0 H++(H1.drop σ.length).map (Option.map (a0e (a18 σ H.length))),σ)
  |none=>none
 else none
/-! ### lent calls -/
mutual
def noI:AV→Bool
 |.iptr _=>false
 |.islice _ _=>false
 |.imap _ _ _ _=>false
 |.iset _=>false
 |.func _ fs cs=>c0i fs&&c0i cs
 |.iface _ x=>noI x
 |.agg cs=>c0i cs
 |.tuple cs=>c0i cs
 |.junk|.bool _|.int ..|.str _|.nilptr|.nilslice|.nilmap|.nilfunc|.nilifc|.ptr _ _ _|.slice _ _ _ _|.map _|.yfn _=>true
def c0i:List AV→Bool
 | []=>true
 |v::vs=>noI v&&c0i vs
end
def e0y:AObj→Bool
 |.row _ aa=>aa.all c0i
 |.map ks vs _ _=>c0i ks&&c0i vs
 |.siter _ _=>true
 |.uset _=>true
 |_=>false
def a6o(H:a03):FHeap:=λb=>match a02 H b with
 |some o=>bif e0y o then some o else none
 |none=>none
def a7y(run:List AV→a03→Option (AV×a03))(args:List AV)(H:a03):Option (AV×a03×List Nat):=
 match a54 0 false (a4e (a02 H) 0 12) args with
 |some au=>match run au []with
  |some (v,H1)=>bif noI v then match a3e 0 false (a4e (a6o H1) 0 12) v with
   |some v'=>some (v',H,List.range H.length)
   |none=>none
   else none
  |none=>none
 |none=>none
def e91(args:List AV):Option AV:=
 match args with
 | [.str s,.int .u8 c]=>some (.int .i64 (Lib.indexByte s c.toNat.toUInt8))
 |_=>none
def a0a(E:Env)(ag:Bool)(call:FuncId→List AV→a03→Option (AV×a03))(f:AV)(args:List AV)(H:a03):Option (AV×a03×List Nat):=
 match f with
 |.func (.func g) fs cs=>bif E.ext g then(bif (E.fn g).isSome then a7y (call g) (fs++args++cs) H else match e91 (fs++args++cs)with
  |some v=>some (v,H,[])
  |none=>none)
  else bif (E.fn g).isSome then
   match a2f (call g) (fs++args++cs) H with
   |some (v,H',σ)=>bif ag && !(Nat.ble H.length H'.length)then none else some (v,H',σ)
   |none=>none
  else none
 |.yfn b=>match a2f (call yId) (.yfn b::args) H with
  |some (v,H',σ)=>bif ag && !(Nat.ble H.length H'.length)then none else some (v,H',σ)
  |none=>none
 |_=>none
/-! ### operations in a row -/
structure LogE where
 needs:List Nat
 keys:List Nat
def Eff.keys(n:Nat):Eff→List Nat
 |.none=>[]
 |.new _=>[n]
 |.set b _=>[b]
 |.kill b _=>[b,n]
def Eff.fits(n:Nat):Eff→Bool
 |.set b _=>Nat.blt b n
 |.kill b _=>Nat.blt b n
 |_=>true
def a0h:AV→List Nat
 |.ptr b _ _=>[b]
 |.slice b _ _ _=>[b]
 |.map b=>[b]
 |_=>[]
def a89(op:Op)(v:Operand→AV):List Nat:=
 match op with
 |.load _ a=>a0h (v a)
 |.store _ a _=>a0h (v a)
 |.convert _ _ x=>a0h (v x)
 |.slice _ x _ _ _=>a0h (v x)
 |.indexAddr _ x _=>a0h (v x)
 |.lookup _ m _ _=>a0h (v m)
 |.mapUpdate _ m _ _=>a0h (v m)
 |.insert _ m _ _=>a0h (v m)
 |.mapEntry _ m _=>a0h (v m)
 |.entryStore _ m _ _=>a0h (v m)
 |.next it _=>a0h (v it)
 |.entry it=>a0h (v it)
 |.call { callee:=.builtin _,args,.. }=>args.toList.flatMap λx=>a0h (v x)
 |_=>[]
def a6f(E:Env)(f:AV)(H H':a03)(σ:List Nat):Bool:=match f with
 |.func (.func g) _ _=>E.ro g&&σ.all λb=>b1n (a02 H b) (a02 H' b)
 |_=>false
def b4r(ro:Bool)(σ:List Nat)(n n':Nat):List Nat:=bif Nat.beq n' n then(bif ro then[]else σ)else σ++List.range' n (n'-n)
def a0r(E:Env)(ag:Bool)(call:FuncId→List AV→a03→Option (AV×a03))(F:Frm)(H:a03)(op:Op):Option (AV×a03×LogE):=
 match op with
 |.call { callee:=.value f,args,.. }=>match a0a E ag call (opv E F f) (args.toList.map (opv E F)) H with
  |some (v,H',σ)=>some (v,H',⟨σ,b4r (a6f E (opv E F f) H H' σ) σ H.length H'.length⟩)
  |none=>none
 |op=>match aop E H.length (a02 H) op (opv E F)with
  |some (v,e)=>bif e.fits H.length then some (v,b0x H e,⟨a89 op (opv E F),e.keys H.length⟩)else none
  |none=>none
def a6n(N:Nat):Option Tmp→Bool
 |none=>true
 |some d=>Nat.blt d N
def b36(a b:List Nat):Bool:=a.any λx=>a0s b x
def LogE.clash(x y:LogE):Bool:=b36 x.keys y.needs||b36 x.keys y.keys||b36 x.needs y.keys
def a9q(all:List Oper)(i:Nat):Nat→Nat→Bool
 |0,_=>false
 |n+1,j=>match all[j]? with
  |some o=>o.after.toList.any λe=>Region.binds .any e&&(e.on==i||a9q all i n e.on)
  |none=>false
def d6f(all:List Oper)(i j:Nat):Bool:=
 match all[j]? with
 |some o=>o.after.toList.any λe=>Region.binds .any e&&e.on==i
 |none=>false
def a47(all:List Oper)(i j:Nat):Bool:=d6f all i j||a9q all i all.length j
def logOk.logRow (all:List Oper) (j:Nat) (y:LogE):Nat→List LogE→Bool
 |_,[]=>true
 |0,_::_=>false
 |i+1,x::ah=>(!(x.clash y)||a47 all i j)&&logOk.logRow all j y i ah
def logOk(all:List Oper):Nat→List LogE→Bool
 |_,[]=>true
 |0,_::_=>false
 |j+1,y::ah=>logOk.logRow all j y j ah&&logOk all j ah

def a2u(all:List Oper)(j:Nat):Option Nat:=(all[j]?).bind (·.dst)
def a2g(E:Env)(ag:Bool)(N:Nat)(call:FuncId→List AV→a03→Option (AV×a03))(all:List Oper){R:Type} :
 List Oper→List LogE→Frm→a03→(Frm→a03→Option R)→Option R
 | [],log,F,H,k=>bif !ag||logOk all log.length log then k F H else none
 |o::ah,log,F,H,k=>
  bif a6n N o.dst then
   match o.guard with
   |none=>match a0r E ag call F H o.op with
    |some (v,H',l)=>a2g E ag N call all ah (l::log) (a3i F o.dst v) H' k
    |none=>none
   |some (j,bi)=>match a2u all j with
    |none=>none
    |some d=>match a33 F d with
     |.bool b=>bif b then
      (bif bi then match a0r E ag call (a3i F (some d) (.bool true)) H o.op with
       |some (v,H',l)=>a2g E ag N call all ah (l::log) (a3i (a3i F (some d) (.bool true)) o.dst v) H' k
       |none=>none
      else a2g E ag N call all ah (⟨[],[]⟩::log) (a3i (a3i F (some d) (.bool true)) o.dst (.tuple [])) H k)
      else
       (bif bi then a2g E ag N call all ah (⟨[],[]⟩::log) (a3i (a3i F (some d) (.bool false)) o.dst (.tuple [])) H k
       else match a0r E ag call (a3i F (some d) (.bool false)) H o.op with
        |some (v,H',l)=>a2g E ag N call all ah (l::log) (a3i (a3i F (some d) (.bool false)) o.dst v) H' k
        |none=>none)
     |.tuple []=>a2g E ag N call all ah (⟨[],[]⟩::log) (a3i F o.dst (.tuple [])) H k
     |_=>none
  else none
/-! ### statements -/
inductive AExit where
 |normal
 |exit (id:Nat)
 |ret
def a1o(keep:List Nat)(F:Frm):Frm:=keep.map λs=>(s,a33 F s)
def a8q(m0:Nat)(F:Frm)(H:a03):List Nat:=(a1t H a35 ((H.take m0).flatMap a0y++a0d (F.map (·.2))) []).filter λb=>Nat.ble m0 b
def b4u(m0:Nat)(σ:List Nat):Nat→Option Nat:=λb=>bif Nat.blt b m0 then some b else(σ.idxOf? b).map (m0 + ·)
def b5h(π:Nat→Option Nat)(F:Frm):Frm:=F.map λx=>(x.1,ren π x.2)
def gcH(m0:Nat)(σ:List Nat)(H:a03):a03:=(H.take m0).map (Option.map (a0e (b4u m0 σ)))++a4z H σ (b4u m0 σ)
def b1p(m0:Nat)(keep:List Nat){R:Type}(body:Frm→a03→(AExit→Frm→a03→Option R)→Option R):Nat→Frm→a03→(AExit→Frm→a03→Option R)→Option R
 |0,_,_,_=>none
 |n+1,F,H,k=>
  let F1:=a1o keep F
  let σ:=a8q m0 F1 H
  bif a51 σ&&σ.all (λb=>Nat.ble m0 b)&&Nat.ble m0 H.length then
   body (b5h (b4u m0 σ) F1) (gcH m0 σ H) λe F' H'=>match e with
    |.normal=>b1p m0 keep body n F' H' k
    |e=>k e F' H'
  else none
/-! ### ranging over a set -/
def gcD(m0:Nat)(keep:List Nat)(F:Frm)(H:a03):Option (Frm×a03):=
 let F1:=a1o keep F
 let σ:=a8q m0 F1 H
 bif a51 σ&&σ.all (λb=>Nat.ble m0 b)&&Nat.ble m0 H.length then some (b5h (b4u m0 σ) F1,gcH m0 σ H)else none
def d2y:List Oper→Option (Nat×Nat×List Oper)
 | []=>none
 |o::ah=>match o.op,o.dst,o.guard with
  |.next (.tmp it) false,some nx,none=>some (it,nx,ah)
  |_,_,_=>none
def a6i:Code→Option Nat
 |.seq (.region _ an false) _=>(d2y an.toList).map (·.1)
 |_=>none
def d33(F:Frm)(H:a03)(it:Nat):Option (AV×a03):=match a33 F it with
 |.ptr b 0 0=>match a02 H b with
  |some (.miter ks cP (some (some i)))=>some (.tuple [.bool true,.int .i64 i,.bool true],H.set b (some (.miter ks (cP++[i]) none)))
  |some (.miter ks cP (some none))=>some (.tuple [.bool false],H.set b (some (.miter ks cP none)))
  |_=>none
 |_=>none
abbrev R3:=AExit×Frm×a03
def f1x(ks aJ:List Int)(a:Option Int)(F:Frm)(H:a03)(it:Nat):Option a03:=match a33 F it with
 |.ptr b 0 0=>match a02 H b with
  |some (.miter jE cP _)=>bif decide (jE=ks)&&decide (cP=aJ)then some (H.set b (some (.miter ks cP (some a))))else none
  |_=>none
 |_=>none
def dropIt(F:Frm)(H:a03)(it:Nat):a03:=match a33 F it with
 |.ptr b _ _=>H.set b none
 |_=>H
def b17(m0 it:Nat)(keep:List Nat)(ks aJ:List Int)(body:Frm→a03→(AExit→Frm→a03→Option R3)→Option R3)(a:Option Int)(F:Frm)(H:a03):Option R3:=
 match gcD m0 keep F H with
 |some (F1,H1)=>match f1x ks aJ a F1 H1 it with
  |some H2=>body F1 H2 λe F' H'=>some (e,F',H')
  |none=>none
 |none=>none
def a58(m0 it:Nat)(keep:List Nat)(ks:List Int)(body:Frm→a03→(AExit→Frm→a03→Option R3)→Option R3):List Int→List Int→Frm→a03→Option R3
 |aJ,[],F,H=>match b17 m0 it keep ks aJ body none F H with
  |some (.normal,_,_)=>none
  |some (e,F',H')=>some (e,F',dropIt F' H' it)
  |none=>none
 |aJ,i::o,F,H=>match b17 m0 it keep ks aJ body (some i) F H with
  |some (.normal,F',H')=>a58 m0 it keep ks body (aJ++[i]) o F' H'
  |_=>none
def e79(m0 it:Nat)(keep:List Nat)(F:Frm)(H:a03):Option (List Int):=match gcD m0 keep F H with
 |some (F1,H1)=>match a33 F1 it with
  |.ptr b 0 0=>match a02 H1 b with
   |some (.miter ks [] _)=>some ks
   |_=>none
  |_=>none
 |none=>none
def c5l(x:Int):List Int→List (List Int)
 | []=>[[x]]
 |y::l=>(x::y::l)::(c5l x l).map (y :: ·)
def b5p:List Int→List (List Int)
 | []=>[[]]
 |x::l=>(b5p l).flatMap (c5l x)
def e2c:AExit→AExit→Bool
 |.normal,.normal=>true
 |.ret,.ret=>true
 |.exit a,.exit b=>Nat.beq a b
 |_,_=>false
def c4x:a03→a03→Bool
 | [],[]=>true
 |a::H,b::J=>b1n a b&&c4x H J
 |_,_=>false
def d7g(x:Option R3)(r:R3):Bool:=match x with
 |some (e,F,H)=>e2c e r.1&&(b72 F r.2.1&&c4x H r.2.2)
 |none=>false
def c5c(m0 it:Nat)(keep:List Nat){R:Type}(body:Frm→a03→(AExit→Frm→a03→Option R3)→Option R3)(F:Frm)(H:a03)(k:AExit→Frm→a03→Option R):Option R:=
 match e79 m0 it keep F H with
 |some ks=>match(b5p ks).map λo=>a58 m0 it keep ks body [] o F H with
  |some r::rs=>bif rs.all (λx=>d7g x r)then k r.1 r.2.1 r.2.2 else none
  |_=>none
 |none=>none
def d03(keep:List Nat):Bool:=keep.any λs=>Nat.ble 1000000 s&&Nat.blt s 1001000
def c5u:List Nat→Nat
 | []=>0
 |s::r=>bif Nat.ble 1000000 s&&Nat.blt s 1001000 then s-1000000 else c5u r
def e18(m:Nat)(H:a03)(v:AV):AV:=match a3e m true (a4e (a02 H) m 12) v with
 |some v'=>v'
 |none=>.junk
def c23(m:Nat)(H:a03)(F:Frm):Frm:=F.map λx=>(x.1,e18 m H x.2)
def b3r(m:Nat)(H:a03):a03:=(H.take m).map (Option.map (b1q m (a4e (a02 H) m 12)))
def yOf:List Nat→Option Nat
 | []=>none
 |s::r=>bif Nat.ble 3000000 s then some (s-3000000)else yOf r
def rfs(N f:Nat):Nat→Code→List (Nat×RInfo)
 |cur,.rangeFunc _ ps asg body=>[(cur,⟨N,ps.toList,asg,body,f⟩)]
 |cur,.seq a b=>rfs N f cur a++rfs N f cur b
 |cur,.cond _ a b=>rfs N f cur a++rfs N f cur b
 |_,.block id b=>rfs N f id b
 |cur,.loop b=>rfs N f cur b
 |cur,.scope b=>rfs N f cur b
 |_,_=>[]
def b39(cur:Nat):List (Nat×RInfo)→Option RInfo
 | []=>none
 |(c,ri)::r=>bif Nat.beq c cur then some ri else b39 cur r
theorem a63{N f:Nat}:∀(c:Code) (cur:Nat),b4n c=true→rfs N f cur c=[]
 |.rangeFunc _ _ _ _,cur,h=>by simp[b4n]at h
 |.seq a b,cur,h=>by simp only[b4n,e7h]at h;simp[rfs,a63 a cur h.1,a63 b cur h.2]
 |.cond _ a b,cur,h=>by simp only[b4n,e7h]at h;simp[rfs,a63 a cur h.1,a63 b cur h.2]
 |.block id b,cur,h=>by simp only[rfs];exact a63 b id h
 |.loop b,cur,h=>by simp only[rfs];exact a63 b cur h
 |.scope b,cur,h=>by simp only[rfs];exact a63 b cur h
 |.skip,_,_=>rfl
 |.label _,_,_=>rfl
 |.region _ _ _,_,_=>rfl
 |.exit _,_,_=>rfl
 |.ret,_,_=>rfl
 |.goto _,_,_=>rfl
 |.refuse _,_,_=>rfl
def RFOk(E:Env)(f N:Nat)(keep:Nat→List Nat)(ro:Option Nat)(cur:Nat)(c:Code):Prop:=(ro.isSome=true→b4n c=true)∧∀x∈rfs N f cur c,∃y,yOf (keep x.1)=some y∧E.G.rnd y=some x.2
section
variable {E:Env}{f N:Nat}{keep:Nat→List Nat}{ro:Option Nat}{cur:Nat}{a b:Code}
theorem RFOk.seq1(h:RFOk E f N keep ro cur (.seq a b)):RFOk E f N keep ro cur a:=⟨λhr=>by have:=h.1 hr;simp only[b4n,e7h]at this;exact this.1,λx hx=>h.2 x (by simp[rfs,hx])⟩
theorem RFOk.seq2(h:RFOk E f N keep ro cur (.seq a b)):RFOk E f N keep ro cur b:=⟨λhr=>by have:=h.1 hr;simp only[b4n,e7h]at this;exact this.2,λx hx=>h.2 x (by simp[rfs,hx])⟩
theorem RFOk.cond1{c:Operand}(h:RFOk E f N keep ro cur (.cond c a b)):RFOk E f N keep ro cur a:=⟨λhr=>by have:=h.1 hr;simp only[b4n,e7h]at this;exact this.1,λx hx=>h.2 x (by simp[rfs,hx])⟩
theorem RFOk.cond2{c:Operand}(h:RFOk E f N keep ro cur (.cond c a b)):RFOk E f N keep ro cur b:=⟨λhr=>by have:=h.1 hr;simp only[b4n,e7h]at this;exact this.2,λx hx=>h.2 x (by simp[rfs,hx])⟩
theorem RFOk.block{id:Nat}(h:RFOk E f N keep ro cur (.block id b)):RFOk E f N keep ro id b:=⟨h.1,h.2⟩
theorem RFOk.loop(h:RFOk E f N keep ro cur (.loop b)):RFOk E f N keep ro cur b:=⟨h.1,h.2⟩
theorem RFOk.scope(h:RFOk E f N keep ro cur (.scope b)):RFOk E f N keep ro cur b:=⟨h.1,h.2⟩
end
def d6y(H:a03)(b:Nat)(old new:YSt):Option a03:=match a02 H b with
 |some (.yloop y F st)=>bif decide (st=old)then some (H.set b (some (.yloop y F new)))else none
 |_=>none
def e4m(H:a03)(b:Nat):Option YSt:=match a02 H b with
 |some (.yloop _ _ st)=>some st
 |_=>none
def a40(E:Env)(m0 N:Nat)(keep:Nat→List Nat)(call:FuncId→List AV→a03→Option (AV×a03))(lf:Nat) :
 Nat→Code→{R:Type}→Frm→a03→(AExit→Frm→a03→Option R)→Option R
 |_,.skip,_,F,H,k=>k .normal F H
 |_,.label _,_,F,H,k=>k .normal F H
 |_,.region _ an ag,_,F,H,k=>match d2y an.toList with
  |none=>a2g E ag N call an.toList an.toList [] F H λF' H'=>k .normal F' H'
  |some (it,nx,ah)=>bif ag || !Nat.blt nx N then none else match d33 F H it with
   |some (v,H')=>a2g E false N call an.toList ah [⟨[],[]⟩] (a3i F (some nx) v) H' λF' H'=>k .normal F' H'
   |none=>none
 |cur,.seq a b,_,F,H,k=>a40 E m0 N keep call lf cur a F H λe F' H'=>match e with
  |.normal=>a40 E m0 N keep call lf cur b F' H' k
  |e=>k e F' H'
 |cur,.cond c x y,_,F,H,k=>match opv E F c with
  |.bool t=>bif t then a40 E m0 N keep call lf cur x F H k else a40 E m0 N keep call lf cur y F H k
  |_=>none
 |_,.block id b,_,F,H,k=>a40 E m0 N keep call lf id b F H λe F' H'=>match e with
  |.exit id'=>bif id'==id then k .normal F' H' else k (.exit id') F' H'
  |e=>k e F' H'
 |cur,.loop b,_,F,H,k=>match a6i b with
  |none=>b1p m0 (keep cur) (λF H k=>a40 E m0 N keep call lf cur b F H k) lf F H λe F' H'=>bif d03 (keep cur)then k e (c23 (m0+c5u (keep cur)) H' F') (b3r (m0+c5u (keep cur)) H')else k e F' H'
  |some it=>c5c m0 it (keep cur) (λF H k=>a40 E m0 N keep call lf cur b F H k) F H k
 |cur,.rangeFunc f _ _ _,_,F,H,k=>match opv E F f,yOf (keep cur)with
  |.func (.func g) fs cs,some y=>bif (E.fn g).isSome && !(E.ext g)then
   match a2f (call g) (fs++[.yfn H.length]++cs) (H++[some (.yloop y (a1o (keep cur) F) .ready)])with
   |some (_,H2,_)=>match e4m H2 H.length with
    |some .ready=>k .normal F (H2.set H.length none)
    |some (.done none)=>k .ret F (H2.set H.length none)
    |some (.done (some id))=>k (.exit id) F (H2.set H.length none)
    |_=>none
   |none=>none
   else none
  |_,_=>none
 |cur,.scope b,_,F,H,k=>a40 E m0 N keep call lf cur b F H k
 |_,.exit id,_,F,H,k=>k (.exit id) F H
 |_,.ret,_,F,H,k=>k .ret F H
 |_,_,_,_,_,_=>none
/-! ### functions -/
def a17(E:Env)(F:Frm)(H:a03):List ResultVar→Option (List AV)
 | []=>some []
 |.tmp t::r=>match a17 E F H r with
  |some vs=>some (a33 F t::vs)
  |none=>none
 |.cell a t::r=>match a60 E (a02 H) t (a33 F a),a17 E F H r with
  |some v,some vs=>some (v::vs)
  |_,_=>none
def a7i:List AV→AV
 | [v]=>v
 |vs=>.tuple vs
def a4i:Nat→List AV→Frm
 |_,[]=>[]
 |i,v::vs=>(i,v)::a4i (i+1) vs
def a3r(h:FHeap)(b:Nat):FHeap:=λx=>bif Nat.beq x b then none else h x
def d8d(m:Nat)(v:AV)(H:a03):Option (AV×a03):=match v with
 |.ptr b i o=>bif Nat.ble m b then(match a02 H b with
  |some (.row k aa)=>match frzT m (a4e (a3r (a02 H) b) m 12) aa with
   |some be=>some (.ptr m i o,(H.take m).map (Option.map (a0e (a1e m)))++[some (.row k be)])
   |none=>none
  |_=>none)else none
 |.slice b off len cap=>some (.slice b off len cap,H)
 |.agg cs=>some (.agg cs,H)
 |.tuple cs=>some (.tuple cs,H)
 |.map b=>some (.map b,H)
 |.func f fs cs=>some (.func f fs cs,H)
 |.nilslice=>some (.nilslice,(H.take m).map (Option.map (a0e (a1e m))))
 |_=>none
def a1l(thaw:Bool)(m:Nat)(v:AV)(H:a03):Option (AV×a03):=
 bif thaw then(bif Nat.beq m 0 then d8d m v H else some (v,H))else match a3e m true (a4e (a02 H) m 12) v with
  |some v'=>some (v',(H.take m).map (Option.map (a0e (a1e m))))
  |none=>some (v,H)
def c12:Frm→List Nat→List AV→Frm
 |F,t::ts,v::vs=>c12 (a3i F (some t) v) ts vs
 |F,_,_=>F
def a8e(E:Env)(call:FuncId→List AV→a03→Option (AV×a03))(lf:Nat)(args:List AV)(H:a03):Option (AV×a03):=match args with
 |.yfn b::vs=>match a02 H b with
  |some (.yloop y F .ready)=>match E.G.rnd y with
   |some ri=>bif Nat.beq vs.length ri.ps.length&&ri.ps.all (Nat.blt · ri.N)then
    a40 E H.length ri.N (E.keep ri.fid) call lf 0 ri.asg (c12 F ri.ps vs) H λe F' H'=>match e with
     |.normal=>match d6y H' b .ready .busy with
      |some H1=>a40 E H.length ri.N (E.keep ri.fid) call lf 0 ri.body F' H1 λe _ H2=>match e with
       |.normal=>(d6y H2 b .busy .ready).map (.bool true,·)
       |.ret=>(d6y H2 b .busy (.done none)).map (.bool false,·)
       |.exit id=>(d6y H2 b .busy (.done (some id))).map (.bool false,·)
      |none=>none
     |_=>none
    else none
   |none=>none
  |_=>none
 |_=>none
end Go.Ax
/- AxNow: what e3b at a41 point of a function's run, against its entry. -/
namespace Go.Ax
structure Entry where
 I:Nat→Prop
 K:Nat→Prop
 ρ:PMap
 m:Nat
 w:World
def Marks(e:Entry)(I:Nat→Prop)(w:World)(ds:List Deferred):Prop:=∃rs:List Nat,ds=rs.map (λr=>(⟨.collected r,#[]⟩:Deferred))∧rs.Nodup∧∀r∈rs,I r∧e.w.heap.size≤r∧w.heap[r]?=some (.deferred (some []))
theorem Marks.nil{e:Entry}{I:Nat→Prop}{w:World}:Marks e I w []:=⟨[],rfl,List.nodup_nil,λ_ h=>(by cases h)⟩
theorem Marks.mono{e:Entry}{I I':Nat→Prop}{w w':World}{ds:List Deferred}(h:Marks e I w ds)(hI:∀c,I c→I' c)(hw:∀c,I c→w'.heap[c]?=w.heap[c]?):Marks e I' w' ds:=by obtain⟨rs,h1,h2,h3⟩:=h;exact⟨rs,h1,h2,λr hr=>⟨hI r (h3 r hr).1,(h3 r hr).2.1,by rw[hw r (h3 r hr).1];exact(h3 r hr).2.2⟩⟩
theorem a2x{a:Act}{d:Option Nat}{c:Value}:(a.put d c).defers=a.defers:=by cases d<;>rfl
def NRel(ρ:PMap)(n:Nat):Prop:=∀b,n≤b→ρ b=none
structure Now(E:Env)(e:Entry)(N:Nat)(F:Frm)(H:a03)(I:Nat→Prop)(ρ:PMap)(a:Act)(w:World):Prop where
 imm:∀c,e.I c→I c
 map:∀b,b<e.m→ρ b=e.ρ b
 ext:Ext e.I e.K e.w w
 rel:HRel E.G I e.K ρ (a02 H) w
 nrel:NRel ρ H.length
 frm:FRel I w ρ N F a.tmps
 low:e.m≤H.length
 marks:Marks e I w a.defers
section
variable {E:Env}
theorem b6q(H:a03):a02 H H.length=none:=by simp[a02]
theorem c3y(H:a03)(e:Eff):∀b o,a02 (b0x H e) b=some o→((a02 H).eff H.length e) b=some o:=by
 intro b o hb;cases e with
 |none=>exact hb
 |new o1=>
  simp only[b0x,a02,FHeap.eff,FHeap.set]at hb⊢;by_cases h:b=H.length
  ·subst h;simp at hb;simp[hb]
  ·rw[e8g h];rcases f1d b H.length with h1|h1
   ·rwa [e8f h1]at hb
   ·rw[e8m (by simp;omega)]at hb;simp at hb
 |set b1 o1=>
  simp only[b0x,a02,FHeap.eff,FHeap.set]at hb⊢;rw[e8n]at hb;by_cases h:b=b1
  ·subst h;rw[e8j rfl]at hb⊢;split at hb
   ·simpa using hb
   ·simp at hb
  ·rw[e8g (λe=>h e.symm)]at hb;rw[e8g h];exact hb
 |kill b1 o1=>
  simp only[b0x,a02,FHeap.eff,FHeap.set]at hb⊢;by_cases h:b=H.length
  ·subst h;rw[e8h (by simp)]at hb;simp at hb;simp[hb]
  ·rw[e8g h];rcases f1d b H.length with h1|h1
   ·rw[e8f (by simpa using h1),e8n]at hb;by_cases h2:b=b1
    ·subst h2;rw[e8j rfl]at hb;split at hb<;>simp at hb
    ·rw[e8g (λe=>h2 e.symm)]at hb;rw[e8g h2];exact hb
   ·rw[e8m (by simp;omega)]at hb;simp at hb
theorem a9c(H:a03)(e:Eff):(b0x H e).length=if e.fresh then H.length+1 else H.length:=by cases e<;>simp[b0x,Eff.fresh]
theorem NRel.moves{ρ ρ':PMap}{H:a03}{e:Eff}(hn:NRel ρ H.length)(hm:Moves ρ ρ' H.length e):NRel ρ' (b0x H e).length:=by
 intro b hb;rw[a9c]at hb;cases hf:e.fresh with
 |false=>rw[hf]at hb;rw[hm.2 hf];exact hn b (by simpa using hb)
 |true=>
  rw[hf]at hb;have hb:H.length+1≤b:=by simpa using hb
  rw[hm.1 b (by omega)];exact hn b (by omega)
theorem Now.op(ok:EnvOk E){e:Entry}{N:Nat}{F:Frm}{H:a03}{I:Nat→Prop}{ρ:PMap}{a:Act}{w:World}(h:Now E e N F H I ρ a w){o:Oper}{v:AV}{eff:Eff}
 (ha:aop E H.length (a02 H) o.op (opv E F)=some (v,eff))(hd:a6n N o.dst=true) :
 ∃x w' c ρ',(execOp a.eval o).run E.P w = .ok x w'∧(x = .value c∨(x = .skip∧c=undef))∧Now E e N (a3i F o.dst v) (b0x H eff) I ρ' (a.put o.dst c) w':=by
 obtain⟨x,w',c,ρ',ae,hx,step,hv,hm⟩:=d6n ok h.rel (b6q H) (h.nrel _ (e9k _)) ha (b2x h.rel h.frm);refine⟨x,w',c,ρ',ae,hx,?_⟩;have lQ:∀s,o.dst=some s→s<N:=by intro s hs;rw[hs]at hd;simpa[a6n,e9o]using hd
 refine⟨h.imm,λb hb=>?_,h.ext.trans h.imm step.ext,step.rel.fewer (c3y H eff),h.nrel.moves hm,?_,?_,?_⟩
 ·rw[hm.1 b (by have:=h.low;omega)];exact h.map b hb
 ·exact(FRel.mono h.frm (λv c hv=>step.vrel hv)).set lQ hv
 ·rw[a9c];have:=h.low;split<;>omega
 ·rw[a2x];exact h.marks.mono (λ_ h=>h) (λc hc=>step.ext.keep c (.inl hc))
theorem Now.refine{e:Entry}{N:Nat}{F:Frm}{H:a03}{I:Nat→Prop}{ρ:PMap}{a:Act}{w:World}(h:Now E e N F H I ρ a w){d:Nat}{v:AV}(hv:VRel I w ρ v (a.tmps.getD d undef)) :
 Now E e N (a3i F (some d) v) H I ρ a w:=
 { h with frm:=⟨h.frm.1,λs=>by
  rw[a81];split
  ·rename_i hs;subst hs;exact hv
  ·exact h.frm.2 s⟩ }
theorem Now.skip{e:Entry}{N:Nat}{F:Frm}{H:a03}{I:Nat→Prop}{ρ:PMap}{a:Act}{w:World}(h:Now E e N F H I ρ a w){o:Oper}(hd:a6n N o.dst=true) :
 Now E e N (a3i F o.dst (.tuple [])) H I ρ (a.put o.dst undef) w:=
 { h with
  frm:=h.frm.set (by intro s hs;rw[hs]at hd;simpa[a6n,e9o]using hd) (by simp only[VRel,undef];exact⟨#[],rfl,by simp[VRels]⟩)
  marks:=by rw[a2x];exact h.marks }
end
end Go.Ax
/- AxCall: a call on the blocks that its arguments a1t, and back. -/
namespace Go.Ax
structure Ret(E:Env)(I K:Nat→Prop)(ρ:PMap)(m:Nat)(w:World)(I':Nat→Prop)(ρ':PMap)(H':a03)(w':World):Prop where
 imm:∀c,I c→I' c
 map:∀b,b<m→ρ' b=ρ b
 ext:Ext I K w w'
 rel:HRel E.G I' K ρ' (a02 H') w'
 nrel:NRel ρ' H'.length
 low:m≤H'.length
abbrev f2a:=List Value→World→(Ending→World→Prop)→Prop
def XR(E:Env):f2a:=λam w R=>∃l vs fn tmps asg body,am = .func (.yield l) #[] #[]::vs∧(Instr.yield l vs.toArray).run E.P w = .ok (.round l fn tmps asg body) w∧RoundIn Fence.wide 0 E.P l fn tmps asg body w R
def XOf(E:Env)(g:FuncId):f2a:=if g=yId then XR E else λam w R=>Calls E.P g am.toArray w R
theorem XOf.mono{E:Env}{g:FuncId}{am:List Value}{w:World}{R R':Ending→World→Prop}(h:XOf E g am w R)(hr:∀e w',R e w'→R' e w'):XOf E g am w R':=by
 unfold XOf at h⊢;split at h
 ·rename_i hg;rw[e8j hg];obtain⟨l,vs,fn,tmps,asg,body,h1,h2,h3⟩:=h;exact⟨l,vs,fn,tmps,asg,body,h1,h2,h3.mono hr⟩
 ·rename_i hg;rw[e8g hg];exact Calls.mono h hr
theorem b4k{E:Env}{g:FuncId}(hg:g≠yId):XOf E g=λam w R=>Calls E.P g am.toArray w R:=e8g hg
theorem e0e{E:Env}:XOf E yId=XR E:=e8j rfl
theorem c5v{E:Env}(ok:EnvOk E){g:FuncId}{i:FInfo}(h:E.fn g=some i):g≠yId:=λe=>by rw[e,ok.yid]at h;cases h
def b08(E:Env)(f:FuncId)(run:List AV→a03→Option (AV×a03)):Prop:=
 ∀args H v H',run args H=some (v,H')→∀(I K:Nat→Prop) (ρ:PMap) (w:World) (am:List Value),HRel E.G I K ρ (a02 H) w→NRel ρ H.length→VRels I w ρ args am→
  XOf E f am w λen w'=>∃c I' ρ',en = .returned c∧Ret E I K ρ H.length w I' ρ' H' w'∧VRel I' w' ρ' v c
def b4m(K:Nat→Prop)(ρ:PMap)(hp:FHeap)(σ:List Nat):Nat→Prop:=λc=>K c∨∃b o m,hp b=some o∧ρ b=some m∧m.blk=c∧b∉σ
theorem a29{σ:List Nat}{b j:Nat}(h:σ.idxOf? b=some j):σ[j]?=some b:=by rw[List.idxOf?_eq_some_iff]at h;obtain⟨hj,hb,_⟩:=h;rw[z9e hj,hb]
theorem b0n{σ:List Nat}{b:Nat}(h:σ.idxOf? b=none):b∉σ:=by simpa[List.idxOf?_eq_none_iff]using h
theorem a8l{l:List Nat}(h:a51 l=true):l.Nodup:=by
 induction l with
 |nil=>exact List.nodup_nil
 |cons b r ih=>simp only[a51,e7h,f0x,←Bool.not_eq_true,a1u]at h;exact f2c.2 ⟨h.1,ih h.2⟩
theorem a7z{σ:List Nat}{b j:Nat}(hn:σ.Nodup)(h:σ[j]?=some b):σ.idxOf? b=some j:=by rw[List.idxOf?_eq_some_iff];obtain⟨hj,hb⟩:=e7k.1 h;refine⟨hj,hb,λi hi he=>?_⟩;have:=(List.getElem_inj (h₀:=by omega) (h₁:=hj) hn).1 (he.trans hb.symm);omega
section
variable {E:Env}{I K:Nat→Prop}{ρ:PMap}{hp:FHeap}{w:World}{σ:List Nat}
def a5m(hp:FHeap)(σ:List Nat):a03:=σ.map λb=>(hp b).map (a0e (a8o σ))
theorem b59(j:Nat):a02 (a5m hp σ) j=(σ[j]?).bind λb=>(hp b).map (a0e (a8o σ)):=by simp only[a02,a5m,e8a];cases σ[j]?<;>simp
theorem c8x(r:HRel E.G I K ρ hp w)(hn:σ.Nodup):HRel E.G I (b4m K ρ hp σ) (λj=>(σ[j]?).bind ρ) (a02 (a5m hp σ)) w:=by
 have r1:HRel E.G I K (λj=>(σ[j]?).bind ρ) (a02 (a5m hp σ)) w:=by
  refine r.rename (π:=a8o σ) ?_ ?_ ?_
  ·intro b j m hj hb;have:=a29 hj;simp only[this,f1l,hb]
  ·intro j o' ho;rw[b59]at ho;cases hb:σ[j]? with
   |none=>rw[hb]at ho;simp at ho
   |some b=>
    rw[hb]at ho;simp only[f1l]at ho;cases eF:hp b with
    |none=>rw[eF]at ho;simp at ho
    |some o=>rw[eF]at ho;simp only[e8d,Option.some.injEq]at ho;exact⟨b,o,eF,a7z hn hb,ho.symm⟩
  ·intro j m hj;cases hb:σ[j]? with
   |none=>rw[hb]at hj;simp at hj
   |some b=>rw[hb]at hj;exact r.dom b m hj
 refine⟨?_,r1.inj,r1.dom,r1.imm,?_,?_,r1.glob⟩
 ·intro j o' ho;obtain⟨m,h1,h2,h3,h4⟩:=r1.live j o' ho;refine⟨m,h1,h2,?_,h4⟩
  rintro(hk|⟨b,o,m',hb,aX,he,iO⟩)
  ·exact h3 hk
  ·rw[b59]at ho;cases hσ:σ[j]? with
   |none=>rw[hσ]at ho;simp at ho
   |some b'=>
    rw[hσ]at ho h1;simp only[f1l]at ho h1;have hl:(hp b').isSome:=by cases h:hp b' with|none=>rw[h]at ho;simp at ho|some _=>rfl
    have:=r.inj b b' m' m (by simp[hb]) hl aX h1 he;subst this;exact iO (c11 hσ)
 ·rintro c (hk|⟨b,o,m',hb,aX,rfl,_⟩)
  ·exact r.kept c hk
  ·exact r.dom b m' aX
 ·rintro c hc (hk|⟨b,o,m',hb,aX,rfl,_⟩)
  ·exact r.apart c hc hk
  ·obtain⟨sI,h1,h2,_⟩:=r.live b o hb;obtain rfl:m'=sI:=z9o (aX.symm.trans h1);exact h2 hc
theorem b81{g:FuncId}{run:List AV→a03→Option (AV×a03)}(ae:b08 E g run){args:List AV}{am:List Value}{v1:AV}{H1:a03}
 (ai:run (args.map (ren (a8o σ))) (a5m hp σ)=some (v1,H1))(r:HRel E.G I K ρ hp w)(hn:σ.Nodup)(ha:VRels I w ρ args am) :
 XOf E g am w λen w'=>∃c I1 ρ1,en = .returned c∧Ret E I (b4m K ρ hp σ) (λj=>(σ[j]?).bind ρ) σ.length w I1 ρ1 H1 w'∧VRel I1 w' ρ1 v1 c:=by
 have h:=ae _ _ _ _ ai I (b4m K ρ hp σ) (λj=>(σ[j]?).bind ρ) w am (c8x r hn)
  (by intro j hj;simp only[a5m,c10]at hj;simp[e8m hj])
  (by rw[←a7s];exact VRels.ren (λb j m hj hb=>by have:=a29 hj;simp only[this,f1l,hb]) args ha)
 simpa[a5m]using h
theorem b83{n:Nat}{I1:Nat→Prop}{ρ1:PMap}{H1:a03}{w':World}(r:HRel E.G I K ρ hp w)(_:σ.Nodup)
 (aC:Ret E I (b4m K ρ hp σ) (λj=>(σ[j]?).bind ρ) σ.length w I1 ρ1 H1 w'){ρ2:PMap}{h2:FHeap}
 (aN:∀b m,ρ b=some m→ρ2 b=some m)(bW:∀j b m,a18 σ n j=some b→ρ1 j=some m→ρ2 b=some m)
 (lO:∀b m,ρ2 b=some m→ρ b=some m∨∃j,ρ1 j=some m)
 (hh:∀b o,h2 b=some o→(b∉σ∧hp b=some o)∨∃j o1,a18 σ n j=some b∧a02 H1 j=some o1∧o=a0e (a18 σ n) o1) :
 HRel E.G I1 K ρ2 h2 w':=by
 have bF:=aC.ext.size;have cw:∀c,I c→w'.heap[c]?=w.heap[c]?:=λc hc=>aC.ext.keep c (.inl hc);have r1:=aC.rel;have iz:∀b o,h2 b=some o→∃m,ρ2 b=some m∧¬I1 m.blk∧¬K m.blk∧ORel E.G I1 w' ρ2 m o∧((b∉σ∧hp b=some o∧ρ b=some m)∨∃j,a18 σ n j=some b∧(a02 H1 j).isSome∧ρ1 j=some m):=by
  intro b o hb;rcases hh b o hb with ⟨iO,eF⟩|⟨j,o1,hj,eg,rfl⟩
  ·obtain⟨m,h1,h3,h4,h5⟩:=r.live b o eF;have rT:b4m K ρ hp σ m.blk:=.inr ⟨b,o,m,eF,h1,rfl,iO⟩;refine⟨m,aN b m h1,λhc=>r1.apart _ hc rT,h4,?_,.inl ⟨iO,eF,h1⟩⟩;exact ORel.mono o aC.imm cw aN (aC.ext.keep _ (.inr rT)) h5
  ·obtain⟨m,h1,h3,h4,h5⟩:=r1.live j o1 eg;refine⟨m,bW j b m hj h1,h3,λhk=>h4 (.inl hk),ORel.ren (λj b m hj h=>bW j b m hj h) o1 h5,.inr ⟨j,hj,by simp[eg],h1⟩⟩
 refine⟨?_,?_,?_,r1.imm,?_,?_,r1.glob⟩
 ·intro b o hb;obtain⟨m,h1,h3,h4,h5,_⟩:=iz b o hb;exact⟨m,h1,h3,h4,h5⟩
 ·intro b b' m m' hb aW hm aX he;obtain⟨o,ho⟩:=e7n.1 hb;obtain⟨o',d5⟩:=e7n.1 aW;obtain⟨q,hq,_,_,_,hc⟩:=iz b o ho;obtain⟨q',ii,_,_,_,o4⟩:=iz b' o' d5;rw[hm]at hq;cases hq;rw[aX]at ii;cases ii;rcases hc with ⟨iO,eF,h1⟩|⟨j,hj,hl,h1⟩<;>rcases o4 with ⟨pR,nt,ed⟩|⟨j',kG,oX,ed⟩
  ·exact r.inj b b' m m' (by simp[eF]) (by simp[nt]) h1 ed he
  ·exfalso;obtain⟨o1,eg⟩:=e7n.1 oX;obtain⟨q,hq,_,hk,_⟩:=r1.live j' o1 eg;rw[ed]at hq;cases hq;exact hk (.inr ⟨b,o,m,eF,h1,he,iO⟩)
  ·exfalso;obtain⟨o1,eg⟩:=e7n.1 hl;obtain⟨q,hq,_,hk,_⟩:=r1.live j o1 eg;rw[h1]at hq;cases hq;exact hk (.inr ⟨b',o',m',nt,ed,he.symm,pR⟩)
  ·have:=r1.inj j j' m m' hl oX h1 ed he;subst this;rw[hj]at kG;exact z9o kG
 ·intro b m hb;rcases lO b m hb with h|⟨j,h⟩
  ·have:=r.dom b m h;omega
  ·exact r1.dom j m h
 ·intro c hc;have:=r.kept c hc;omega
 ·intro c hc hk;exact r1.apart c hc (.inl hk)
end
end Go.Ax
/- AxCall2: a call in sequence; the concrete step of a call. -/
namespace Go.Ax
section
variable {E:Env}{I K:Nat→Prop}{ρ:PMap}{w:World}
theorem a6y(σ:List Nat)(n:Nat)(H1:a03):∀(b0:Nat) (H:a03) (i:Nat),
 (a13 σ n H1 b0 H)[i]?=(H[i]?).map λo=>match σ.idxOf? (b0+i)with
  |some j=>(a02 H1 j).map (a0e (a18 σ n))
  |none=>o
 |b0,[],i=>by simp[a13]
 |b0,o::r,0=>by simp[a13]<;>rfl
 |b0,o::r,i+1=>by simp only[a13,f00];rw[a6y σ n H1 (b0+1) r i,show b0+1+i=b0+(i+1) by omega]
theorem a15(σ:List Nat)(n:Nat)(H1:a03):∀(b0:Nat) (H:a03),(a13 σ n H1 b0 H).length=H.length
 |b0,[]=>by simp[a13]
 |b0,o::r=>by simp[a13,a15 σ n H1 (b0+1) r]
theorem b0y{g:FuncId}{run:List AV→a03→Option (AV×a03)}(ae:b08 E g run){args:List AV}{am:List Value}{H H':a03}{v:AV}{σ:List Nat}
 (ai:a2f run args H=some (v,H',σ))(r:HRel E.G I K ρ (a02 H) w)(hn:NRel ρ H.length)(ha:VRels I w ρ args am) :
 XOf E g am w λen w'=>∃c I' ρ',en = .returned c∧Ret E I K ρ H.length w I' ρ' H' w'∧VRel I' w' ρ' v c:=by
 unfold a2f at ai;simp only at ai;generalize hσ:a1t H a35 (a0d args) []=σ' at ai;rw[cond_eq_ite]at ai;split at ai
 case isFalse=>cases ai
 rename_i hc;simp only[e7h,e9r,e9o]at hc;obtain⟨aU,aj⟩:=hc;have aU:=a8l aU;split at ai
 case h_2=>cases ai
 rename_i v1 H1 hr;simp only[Option.some.injEq,Prod.mk.injEq]at ai;obtain⟨rfl,rfl,rfl⟩:=ai;have iM:run (args.map (ren (a8o σ'))) (a5m (a02 H) σ')=some (v1,H1):=hr;refine XOf.mono (b81 ae iM r aU ha) ?_
 rintro en w' ⟨c,I1,ρ1,rfl,aC,hv⟩
 have bW:∀j b m,a18 σ' H.length j=some b→ρ1 j=some m→(if b<H.length then ρ b else ρ1 (σ'.length+(b-H.length)))=some m:=by
  intro j b m hj hm;simp only[a18]at hj;rw[cond_eq_ite]at hj;split at hj
  ·rename_i bg;have bg:j<σ'.length:=by simpa[e9o]using bg
   have hb:=aj b (c11 hj);rw[e8j hb];have:=aC.map j bg;rw[hm,hj]at this;exact this.symm
  ·rename_i bg;have bg:σ'.length≤j:=by simpa[e9o]using bg
   cases hj;rw[e8g (by omega),show σ'.length+(H.length+(j-σ'.length)-H.length)=j by omega];exact hm
 have aN:∀b m,ρ b=some m→(if b<H.length then ρ b else ρ1 (σ'.length+(b-H.length)))=some m:=by
  intro b m hb;have:b<H.length:=by
   rcases f1d b H.length with h|h
   ·exact h
   ·rw[hn b h]at hb;cases hb
  rw[e8j this];exact hb
 refine⟨c,I1,λb=>if b<H.length then ρ b else ρ1 (σ'.length+(b-H.length)),rfl,⟨aC.imm,λb hb=>by rw[e8j hb],aC.ext.keepLess (λc hc=>.inl hc),?_,?_,?_⟩,?_⟩
 ·refine b83 r aU aC aN bW ?_ ?_
  ·intro b m hb;split at hb
   ·exact .inl hb
   ·exact .inr ⟨_,hb⟩
  ·intro b o hb;simp only[a02]at hb;rcases f1d b H.length with cj|cj
   ·rw[e8f (by rw[a15];exact cj),a6y]at hb;simp only[e9y]at hb;rw[z9e cj]at hb;simp only[e8d,f2f]at hb;split at hb
    ·rename_i j hj;right;have hσj:=a29 hj;have bg:=(e7k.1 hσj).1;obtain⟨o1,eg,rfl⟩:=a07 hb;refine⟨j,o1,?_,eg,rfl⟩;simp only[a18];rw[cond_eq_ite,e8j (by simpa[e9o]using bg)];exact hσj
    ·rename_i hj;left;exact⟨b0n hj,by simp only[a02];rw[z9e cj];simpa using hb⟩
   ·right;rw[e8h (by rw[a15];exact cj),a15,e8a,f1p]at hb;refine⟨σ'.length+(b-H.length),?_⟩;cases hx:H1[σ'.length+(b-H.length)]? with
    |none=>rw[hx]at hb;simp at hb
    |some ob=>
     rw[hx]at hb;simp only[e8d,f2f]at hb;obtain⟨o1,rfl,rfl⟩:=a07 hb;refine⟨o1,?_,by simp[a02,hx],rfl⟩;simp only[a18];rw[cond_eq_ite,e8g (by simp[e9o])]
     congr 1;omega
 ·intro b hb;simp only[e8i,a15,c10,List.length_drop]at hb;have cL:=aC.low;dsimp only;rw[e8g (by omega)];exact aC.nrel _ (by omega)
 ·simp[a15]
 ·exact VRel.ren (λj b m hj hm=>bW j b m hj hm) v1 hv
theorem a9v{a:Act}{o:Oper}{f:Operand}{args:Array Operand}{oE:Array TypeId}(ho:o.op = .call ⟨.value f,args,oE⟩){g:FuncId}{fs cs:Array Value}(hf:a.eval f = .func (.func g) fs cs) :
 (execOp a.eval o).run E.P w=(callFunc g (fs++args.map a.eval++cs)).run E.P w:=by
 obtain⟨dst,op,type,pos,after,guard⟩:=o;simp only at ho;subst ho;simp[execOp,resolve,hf,Deferred.ofValue,invoke]
theorem a3p(ok:EnvOk E){g:FuncId}(hg:(E.fn g).isSome=true)(args:Array Value):(callFunc g args).run E.P w = .ok (.enter g args) w:=by
 obtain⟨i,hi⟩:=e7n.1 hg;obtain⟨fn,h1,h2,_,_,h5⟩:=ok.fn g i hi
 have h6:¬fn.name = "runtime.NumGoroutine" := by simpa using h5
 simp[callFunc,h1,h2,h6]
theorem b1j(ok:EnvOk E){g:FuncId}(hg:E.ext g=true)(bC:(E.fn g).isSome=false){args:List AV}{am:List Value}{v:AV}(hv:e91 args=some v)(ha:VRels I w ρ args am) :
 ∃c,(callFunc g am.toArray).run E.P w = .ok (.value c) w∧VRel I w ρ v c:=by
 obtain⟨fn,h1,h2,h3,h4,h5⟩:=ok.ext g hg bC;unfold e91 at hv;split at hv
 case h_2=>cases hv
 rename_i s cc;cases hv;simp only[VRels]at ha;obtain⟨c1,_,rfl,hs,c2,_,rfl,hb,rfl⟩:=ha;simp only[VRel]at hs hb;obtain⟨t,rfl,ht⟩:=hs;subst hb;refine⟨.int .i64 (Lib.indexByte s cc.toNat.toUInt8),?_,by simp[VRel]⟩;have:=Lib.run_indexByteString (P:=E.P) t cc w;rw[ht]at this
 have h6:¬fn.name = "runtime.NumGoroutine" := by simpa using h3
 simp[callFunc,h1,h2,h6,h4,h5,this]
end
end Go.Ax
/- AxWf: the walk of a function's body and that of a round's, in one. -/
namespace Go.Ax
def wf:Option Nat→Fence
 |none=>Fence.wide
 |some l=>Fence.wide.inRound l
@[simp] theorem d6z(ro:Option Nat)(f:FuncId):(wf ro).fn f:=by cases ro<;>trivial
@[simp] theorem d1x(ro:Option Nat):(wf ro).round=ro:=by cases ro<;>rfl
@[simp] theorem e4n(ro:Option Nat):(wf ro).depth=none:=by cases ro<;>rfl
theorem d4w{ro:Option Nat}{n:Nat}{P:Program}{f:FuncId}{args:Array Value}{w:World}{R:Ending→World→Prop}:CallsIn (wf ro) n P f args w R↔Calls P f args w R:=by
 cases ro
 ·exact callsIn_wide
 ·exact callsIn_wide (n:=n)
theorem d2m{ro:Option Nat}{n:Nat}{P:Program}{l:Nat}{f:FuncId}{tmps:Array Value}{assign body:Code}{w:World}{R:Ending→World→Prop} :
 RoundIn (wf ro) n P l f tmps assign body w R↔RoundIn Fence.wide n P l f tmps assign body w R:=by
 cases ro<;>exact Iff.rfl
section
variable {P:Program}{ro:Option Nat}{o:Oper}{a:Act}{w:World}{K:Act→World→Prop}{Q:Exit→Act→World→Prop}
theorem a7l(hd:∀c,o.op≠ .defer c)(h:o.uponIn (wf ro) 0 P a K Q ((execOp a.eval o).run P w)):o.wpIn (wf ro) 0 P a w K Q:=⟨λf _=>d6z ro f,by rw[d1x,Oper.semAt_eq _ _ _ hd];exact h⟩
theorem a8b{f:FuncId}{args:Array Value}(h:Calls P f args w fun
 |.returned v,jp=>K (a.put o.dst v) jp
 |.panicked chain,jp=>Q (.panic chain) a jp
 |.outgrown,_=>LetsOut Q):o.uponIn (wf ro) 0 P a K Q (.ok (.enter f args) w):=
 ⟨λh=>by simp at h,d4w.2 h⟩
theorem b54{l:Nat}{f:FuncId}{tmps:Array Value}{assign body:Code}(h:RoundIn Fence.wide 0 P l f tmps assign body w fun
 |.returned v,jp=>K (a.put o.dst v) jp
 |.panicked chain,jp=>Q (.panic chain) a jp
 |.outgrown,_=>LetsOut Q):o.uponIn (wf ro) 0 P a K Q (.ok (.round l f tmps assign body) w):=
 ⟨λh=>by simp at h,d2m.2 h⟩
theorem b4h{E:Env}{n:Nat}{h:FHeap}{op:Op}{v:Operand→AV}{r:AV×Eff}(ha:aop E n h op v=some r):∀c,op≠ .defer c:=by
 rintro c rfl
 simp[aop]at ha
theorem b6b{f:Operand}{args:Array Operand}{oE:Array TypeId}(ho:o.op = .call ⟨.value f,args,oE⟩){l:Nat}(hf:a.eval f = .func (.yield l) #[] #[]) :
 (execOp a.eval o).run P w=(Instr.yield l (args.map a.eval)).run P w:=by
 obtain⟨dst,op,type,pos,after,guard⟩:=o;simp only at ho;subst ho;simp[execOp,resolve,hf,Deferred.ofValue,invoke]
end
end Go.Ax
/- AxLend: lent calls: the callee sees its caller's memory as immutable, and gives new memory only, which is frozen at once. -/
namespace Go.Ax
section
variable {I I':Nat→Prop}{w:World}{ρ:PMap}
mutual
theorem VRel.noI:∀(v:AV) {c:Value},noI v=true→VRel I w ρ v c→VRel I' w ρ v c
 |.junk,c,_,h=>by simp[VRel]
 |.bool b,c,_,h=>by simpa[VRel]using h
 |.int k n,c,_,h=>by simpa[VRel]using h
 |.str s,c,_,h=>by simpa[VRel]using h
 |.nilptr,c,_,h=>by simpa[VRel]using h
 |.nilslice,c,_,h=>by simpa[VRel]using h
 |.nilmap,c,_,h=>by simpa[VRel]using h
 |.nilfunc,c,_,h=>by simpa[VRel]using h
 |.nilifc,c,_,h=>by simpa[VRel]using h
 |.ptr b i o,c,_,h=>by simpa only[VRel]using h
 |.slice b off len cap,c,_,h=>by simpa only[VRel]using h
 |.map b,c,_,h=>by simpa only[VRel]using h
 |.yfn b,c,_,h=>by simpa only[VRel]using h
 |.iptr cs,c,hn,_=>by simp[Ax.noI]at hn
 |.islice aa cap,c,hn,_=>by simp[Ax.noI]at hn
 |.imap ks vs bs bh,c,hn,_=>by simp[Ax.noI]at hn
 |.iset ks,c,hn,_=>by simp[Ax.noI]at hn
 |.func fn fs cs,c,hn,h=>by simp only[Ax.noI,e7h]at hn;simp only[VRel]at h⊢;obtain⟨a,b,rfl,h1,h2⟩:=h;exact⟨a,b,rfl,VRels.noI fs hn.1 h1,VRels.noI cs hn.2 h2⟩
 |.iface t x,c,hn,h=>by simp only[Ax.noI]at hn;simp only[VRel]at h⊢;obtain⟨a,rfl,h1⟩:=h;exact⟨a,rfl,VRel.noI x hn h1⟩
 |.agg cs,c,hn,h=>by simp only[Ax.noI]at hn;simp only[VRel]at h⊢;obtain⟨a,rfl,h1⟩:=h;exact⟨a,rfl,VRels.noI cs hn h1⟩
 |.tuple cs,c,hn,h=>by simp only[Ax.noI]at hn;simp only[VRel]at h⊢;obtain⟨a,rfl,h1⟩:=h;exact⟨a,rfl,VRels.noI cs hn h1⟩
theorem VRels.noI:∀(vs:List AV) {cs:List Value},c0i vs=true→VRels I w ρ vs cs→VRels I' w ρ vs cs
 | [],cs,_,h=>by simpa[VRels]using h
 |v::vs,cs,hn,h=>by simp only[c0i,e7h]at hn;simp only[VRels]at h⊢;obtain⟨c,aI,rfl,h1,h2⟩:=h;exact⟨c,aI,rfl,VRel.noI v hn.1 h1,VRels.noI vs hn.2 h2⟩
end
theorem VAt.noI:∀(vs:List AV) {b off:Nat},c0i vs=true→VAt I w ρ vs b off→VAt I' w ρ vs b off
 | [],b,off,_,h=>by simp[VAt]
 |v::vs,b,off,hn,h=>by simp only[c0i,e7h]at hn;simp only[VAt]at h⊢;obtain⟨⟨c,hc,h1⟩,h2⟩:=h;exact⟨⟨c,hc,VRel.noI v hn.1 h1⟩,VAt.noI vs hn.2 h2⟩
theorem VRows.noI{k:Nat}:∀(rs:List (List AV)) {b off:Nat},rs.all c0i=true→VRows I w k ρ rs b off→VRows I' w k ρ rs b off
 | [],b,off,_,h=>by simp[VRows]
 |r::rs,b,off,hn,h=>by simp only[List.all_cons,e7h]at hn;simp only[VRows]at h⊢;exact⟨h.1,VAt.noI r hn.1 h.2.1,VRows.noI rs hn.2 h.2.2⟩
theorem ORel.noI{G:GTab (List AV)}{m:Pl}(o:AObj)(hn:e0y o=true)(h:ORel G I w ρ m o):ORel G I' w ρ m o:=by
 cases o with
 |row k aa=>exact⟨h.1,h.2.1,h.2.2.1,VRows.noI aa hn h.2.2.2⟩
 |map ks vs bs bh=>simp only[e0y,e7h]at hn;obtain⟨es,h1,h2,h3,h4⟩:=h;exact⟨es,h1,VRels.noI ks hn.1 h2,VRels.noI vs hn.2 h3,h4⟩
 |siter s pos=>exact h
 |uset ks=>exact h
 |miter ks cP dj=>simp[e0y]at hn
 |yloop y F st=>simp[e0y]at hn
end
theorem a78{H:a03}{b:Nat}{o:AObj}(h:a6o H b=some o):a02 H b=some o∧e0y o=true:=by
 unfold a6o at h;split at h
 case h_2=>cases h
 rename_i o' ho;rw[cond_eq_ite]at h;split at h
 case isFalse=>cases h
 rename_i hn;cases h;exact⟨ho,hn⟩
section
variable {E:Env}{I K:Nat→Prop}{ρ:PMap}{h hl:FHeap}{w:World}
theorem b9g{g:FuncId}{run:List AV→a03→Option (AV×a03)}(ae:b08 E g run)(bc:∀b o,hl b=some o→h b=some o)(r:HRel E.G I K ρ h w){args au:List AV}{am:List Value}{v v':AV}{H1:a03}
 (ha:VRels I w ρ args am)(hf:a54 0 false (a4e hl 0 12) args=some au)(hr:run au []=some (v,H1))(hn:noI v=true)(hv:a3e 0 false (a4e (a6o H1) 0 12) v=some v') :
 XOf E g am w λen w'=>∃c I',en = .returned c∧(∀c,I c→I' c)∧Ext I K w w'∧HRel E.G I' K ρ h w'∧VRel I' w' ρ v' c:=by
 have rl:HRel E.G I K ρ hl w:=r.fewer bc;have hI:∀c,I c→a3h I ρ hl 0 c:=λc hc=>.inl hc;have h1:=a82 hI (a5h rl 12) args hf ha;rw[a7b]at h1;have ul:∀c,a3h I ρ hl 0 c→a3h I ρ h 0 c:=by
  rintro c (hc|⟨b,o,p,h0,hb,hp,he⟩)
  ·exact .inl hc
  ·exact .inr ⟨b,o,p,h0,bc b o hb,hp,he⟩
 have h2:VRels (a3h I ρ h 0) w noP au am:=VRels.mono ul (λ_ _=>rfl) au (λ_ _ h=>h) h1;have mK:∀c,a3h I ρ h 0 c→c<w.heap.size:=by
  rintro c (hc|⟨b,o,p,_,_,hp,rfl⟩)
  ·exact r.imm c hc
  ·exact r.dom b p hp
 have pv:HRel E.G (a3h I ρ h 0) K noP (a02 []) w:=by
  refine⟨λb o hb=>by simp[a02]at hb,λb b' m m' hb=>by simp[a02]at hb,λb m hb=>by simp[noP]at hb,mK,r.kept,?_,λg cs hg=>⟨.inl (r.glob g cs hg).1,VAt.mono (λc hc=>.inl hc) (λ_ _=>rfl) cs (λ_ _ h=>h) rfl (r.glob g cs hg).2⟩⟩
  rintro c (hc|⟨b,o,p,_,hb,hp,rfl⟩)
  ·exact r.apart c hc
  ·obtain⟨q,hq,_,hk,_⟩:=r.live b o hb;rw[hp]at hq;cases hq;exact hk
 have ai:=ae au [] v H1 hr (a3h I ρ h 0) K noP w am pv (λ_ _=>rfl) h2;refine XOf.mono ai ?_
 rintro en w' ⟨c,I1,ρ1,rfl,aC,oO⟩
 have keep:∀c,I c→w'.heap[c]?=w.heap[c]?:=λc hc=>aC.ext.keep c (.inl (.inl hc));have bF:=aC.ext.size;have ke:∀b o p,a6o H1 b=some o→ρ1 b=some p→¬I1 p.blk∧¬K p.blk:=by intro b o p hb hp;obtain⟨q,hq,h3,h4,_⟩:=aC.rel.live b o (a78 hb).1;rw[hp]at hq;cases hq;exact⟨h3,h4⟩
 have pu:HRel E.G I K ρ1 (a6o H1) w':=by
  refine⟨?_,?_,aC.rel.dom,λc hc=>by have:=r.imm c hc;omega,aC.rel.kept,r.apart,λg cs hg=>⟨(r.glob g cs hg).1,VAt.mono (λ_ h=>h) keep cs (λ_ _ h=>h) (keep _ (r.glob g cs hg).1) (r.glob g cs hg).2⟩⟩
  ·intro b o hb;obtain⟨cG,eb⟩:=a78 hb;obtain⟨q,hq,h3,h4,h5⟩:=aC.rel.live b o cG;exact⟨q,hq,λhc=>h3 (aC.imm _ (.inl hc)),h4,ORel.noI o eb h5⟩
  ·intro b b' m m' hb aW;obtain⟨o,ho⟩:=e7n.1 hb;obtain⟨o',d5⟩:=e7n.1 aW;exact aC.rel.inj b b' m m' (by rw[(a78 ho).1];rfl) (by rw[(a78 d5).1];rfl)
 have ru:=b0p (I':=a3h I ρ1 (a6o H1) 0) (λc hc=>.inl hc) (a5h pu 12) v hv (VRel.noI (I':=I) v hn oO);rw[a7b]at ru;refine⟨c,a3h I ρ1 (a6o H1) 0,rfl,λc hc=>.inl hc,⟨aC.ext.os,aC.ext.tape,aC.ext.output,bF,λc hc=>aC.ext.keep c (hc.imp .inl id)⟩,?_,VRel.mono (λ_ h=>h) (λ_ _=>rfl) v' (λ_ _ h=>by simp[noP]at h) ru⟩;refine⟨?_,r.inj,λb m hb=>by have:=r.dom b m hb;omega,?_,aC.rel.kept,?_,λg cs hg=>⟨.inl (r.glob g cs hg).1,VAt.mono (λc hc=>.inl hc) keep cs (λ_ _ h=>h) (keep _ (r.glob g cs hg).1) (r.glob g cs hg).2⟩⟩
 ·intro b o hb;obtain⟨m,h3,h4,h5,h6⟩:=r.live b o hb;have bX:a3h I ρ h 0 m.blk:=.inr ⟨b,o,m,e8e _,hb,h3,rfl⟩;refine⟨m,h3,?_,h5,ORel.mono o (λc hc=>.inl hc) keep (λ_ _ h=>h) (aC.ext.keep _ (.inl bX)) h6⟩
  rintro(hc|⟨b',o',p,_,aW,hp,he⟩)
  ·exact h4 hc
  ·exact(ke b' o' p aW hp).1 (he▸aC.imm _ bX)
 ·rintro c (hc|⟨b',o',p,_,aW,hp,rfl⟩)
  ·have:=r.imm c hc;omega
  ·exact aC.rel.dom b' p hp
 ·rintro c (hc|⟨b',o',p,_,aW,hp,rfl⟩)
  ·exact r.apart c hc
  ·exact(ke b' o' p aW hp).2
theorem b3d{run:List AV→a03→Option (AV×a03)}{args:List AV}{H H':a03}{v':AV}{σ:List Nat}(ai:a7y run args H=some (v',H',σ)) :
 H'=H∧σ=List.range H.length∧∃au v H1,a54 0 false (a4e (a02 H) 0 12) args=some au∧run au []=some (v,H1)∧noI v=true∧a3e 0 false (a4e (a6o H1) 0 12) v=some v':=by
 unfold a7y at ai;split at ai
 case h_2=>cases ai
 rename_i au h1;split at ai
 case h_2=>cases ai
 rename_i v H1 h2;rw[cond_eq_ite]at ai;split at ai
 case isFalse=>cases ai
 rename_i h3;split at ai
 case h_2=>cases ai
 rename_i v2 h4;cases ai;exact⟨rfl,rfl,au,v,H1,h1,h2,h3,h4⟩
theorem c5i{g:FuncId}{run:List AV→a03→Option (AV×a03)}(ae:b08 E g run){args:List AV}{am:List Value}{H H':a03}{v:AV}{σ:List Nat}
 (ai:a7y run args H=some (v,H',σ))(r:HRel E.G I K ρ (a02 H) w)(hn:NRel ρ H.length)(ha:VRels I w ρ args am) :
 XOf E g am w λen w'=>∃c I' ρ',en = .returned c∧Ret E I K ρ H.length w I' ρ' H' w'∧VRel I' w' ρ' v c:=by
 obtain⟨rfl,-,au,v0,H1,h1,h2,h3,h4⟩:=b3d ai;refine XOf.mono (b9g ae (λ_ _ h=>h) r ha h1 h2 h3 h4) ?_
 rintro en w' ⟨c,I',rfl,hI,cg,bw,hv⟩
 exact⟨c,I',ρ,rfl,⟨hI,λ_ _=>rfl,cg,bw,hn,e9k _⟩,hv⟩
end
end Go.Ax
/- AxSeq: operations in a row that draw no order. -/
namespace Go.Ax
section
variable {E:Env}
theorem Now.call{e:Entry}{N:Nat}{F:Frm}{H H':a03}{I I':Nat→Prop}{ρ ρ':PMap}{a:Act}{w w':World}(h:Now E e N F H I ρ a w)(r:Ret E I e.K ρ H.length w I' ρ' H' w')
 {d:Option Tmp}{v:AV}{c:Value}(hd:a6n N d=true)(hv:VRel I' w' ρ' v c):Now E e N (a3i F d v) H' I' ρ' (a.put d c) w':=by
 have hρ:∀b m,ρ b=some m→ρ' b=some m:=by
  intro b m hb;have:b<H.length:=by
   rcases f1d b H.length with h'|h'
   ·exact h'
   ·rw[h.nrel b h']at hb;cases hb
  rw[r.map b this];exact hb
 refine⟨λc hc=>r.imm c (h.imm c hc),λb hb=>?_,h.ext.trans h.imm r.ext,r.rel,r.nrel,?_,?_,?_⟩
 ·rw[r.map b (by have:=h.low;omega)];exact h.map b hb
 ·exact(FRel.mono h.frm (λv c hv=>VRel.mono r.imm (λc hc=>r.ext.keep c (.inl hc)) v hρ hv)).set (by intro s hs;rw[hs]at hd;simpa[a6n,e9o]using hd) hv
 ·have:=h.low;have:=r.low;omega
 ·rw[a2x];exact h.marks.mono r.imm (λc hc=>r.ext.keep c (.inl hc))
def a3v(E:Env)(call:FuncId→List AV→a03→Option (AV×a03)):Prop:=∀g,b08 E g (call g)
theorem c7g(ok:EnvOk E){ro:Option Nat}{call:FuncId→List AV→a03→Option (AV×a03)}(ai:a3v E call){ag:Bool}{e:Entry}{N:Nat}{F:Frm}{H H':a03}{I:Nat→Prop}{ρ:PMap}{a:Act}{w:World}
 (h:Now E e N F H I ρ a w){o:Oper}{v:AV}{l:LogE}(hs:a0r E ag call F H o.op=some (v,H',l))(hd:a6n N o.dst=true){K:Act→World→Prop}{Q:Exit→Act→World→Prop}
 (hK:∀I' ρ' a' w',Now E e N (a3i F o.dst v) H' I' ρ' a' w'→K a' w'):o.wpIn (wf ro) 0 E.P a w K Q:=by
 unfold a0r at hs;split at hs
 ·rename_i f args oE dS;split at hs
  case h_2=>cases hs
  rename_i v' H1 σ aV;cases hs;refine a7l (by rw[dS];intro c hc;cases hc) ?_;unfold a0a at aV;split at aV
  case h_3=>cases aV
  case h_2=>
   rename_i b iZ;have hf:=b2x h.rel h.frm f;rw[iZ]at hf;simp only[VRel]at hf;obtain⟨m,hm,gA⟩:=hf;rw[b6b dS gA];split at aV
   case h_2=>cases aV
   rename_i mJ H2 σ2 d7;rw[cond_eq_ite]at aV;split at aV
   case isTrue=>cases aV
   cases aV;have aD:VRels I w ρ (.yfn b::args.toList.map (opv E F)) (.func (.yield m.blk) #[] #[]::(args.map a.eval).toList):=by simp only[VRels];refine⟨_,_,rfl,by simp only[VRel];exact⟨m,hm,rfl⟩,?_⟩;rw[f2e];exact a4y (b2x h.rel h.frm) args.toList
   have hc:=b0y (ai yId) d7 h.rel h.nrel aD;rw[e0e]at hc;obtain⟨l,vs,fn,tmps,asg,body,he,hy,hr⟩:=hc;simp only[List.cons.injEq,Value.func.injEq,Fn.yield.injEq,and_true]at he;obtain⟨hl,rfl⟩:=he;rw[hl];have bn:(args.map a.eval).toList.toArray=args.map a.eval:=by apply f3t;simp
   rw[bn]at hy;rw[hy];refine b54 (hr.mono ?_)
   rintro en w' ⟨c,I',ρ',rfl,aC,cV⟩
   exact hK I' ρ' _ _ (h.call aC hd cV)
  rename_i g fs cs iZ;have hf:=b2x h.rel h.frm f;rw[iZ]at hf;simp only[VRel]at hf;obtain⟨cB,aI,gA,jU,cR⟩:=hf;have aD:VRels I w ρ (fs++args.toList.map (opv E F)++cs) (cB++args.map a.eval++aI).toList:=by simp only[Array.toList_append,f2e];exact VRels.append (VRels.append jU (a4y (b2x h.rel h.frm) args.toList)) cR
  rw[a9v dS gA];rw[cond_eq_ite]at aV;split at aV
  ·rename_i cg;rw[cond_eq_ite]at aV;split at aV
   ·rename_i hg;rw[a3p ok hg];have hc:=c5i (ai g) aV h.rel h.nrel aD;obtain⟨i,hi⟩:=e7n.1 hg;rw[b4k (c5v ok hi)]at hc;have bn:(cB++args.map a.eval++aI).toList.toArray=cB++args.map a.eval++aI:=by apply f3t;simp
    rw[bn]at hc;refine a8b (Calls.mono hc ?_)
    rintro en w' ⟨c,I',ρ',rfl,aC,cV⟩
    exact hK I' ρ' _ _ (h.call aC hd cV)
   rename_i bC;split at aV
   case h_2=>cases aV
   rename_i mJ lc;cases aV;obtain⟨c,ae,cV⟩:=b1j (E:=E) (w:=w) ok cg (by simpa using bC) lc aD;have bn:(cB++args.map a.eval++aI).toList.toArray=cB++args.map a.eval++aI:=by apply f3t;simp
   rw[bn]at ae;rw[ae,Oper.uponIn_value];exact hK I ρ _ _ (h.call ⟨λ_ h=>h,λ_ _=>rfl,Ext.refl _ _ _,h.rel,h.nrel,e9k _⟩ hd cV)
  ·rw[cond_eq_ite]at aV;split at aV
   case isFalse=>cases aV
   rename_i hg;split at aV
   case h_2=>cases aV
   rename_i mJ H2 σ2 d7;rw[cond_eq_ite]at aV;split at aV
   case isTrue=>cases aV
   cases aV;rw[a3p ok hg];have hc:=b0y (ai g) d7 h.rel h.nrel aD;obtain⟨i,hi⟩:=e7n.1 hg;rw[b4k (c5v ok hi)]at hc;have bn:(cB++args.map a.eval++aI).toList.toArray=cB++args.map a.eval++aI:=by apply f3t;simp
   rw[bn]at hc;refine a8b (Calls.mono hc ?_)
   rintro en w' ⟨c,I',ρ',rfl,aC,cV⟩
   exact hK I' ρ' _ _ (h.call aC hd cV)
 ·split at hs
  case h_2=>cases hs
  rename_i v' eff ha;rw[cond_eq_ite]at hs;split at hs
  case isFalse=>cases hs
  cases hs;obtain⟨x,w',c,ρ',ae,hx,ak⟩:=h.op ok ha hd;refine a7l (b4h ha) ?_;rw[ae];rcases hx with rfl|⟨rfl,rfl⟩
  ·rw[Oper.uponIn_value];exact hK I ρ' _ _ ak
  ·rw[Oper.uponIn_skip];exact hK I ρ' _ _ ak
theorem b52{ro:Option Nat}{P:Program}{an:Array Oper}{Q:Exit→Act→World→Prop}{i:Nat}{ah:List Nat}{a:Act}{w:World}{o:Oper}(ho:an[i]?=some o)
 (hw:Region.wanted o (yielded an a.tmps)=true)(h:o.wpIn (wf ro) 0 P a w (wpOpsIn (wf ro) 0 P an Q ah) Q):wpOpsIn (wf ro) 0 P an Q (i::ah) a w:=by
 simp only[wpOpsIn,ho,hw,f1a];exact h
theorem c4h{ro:Option Nat}{P:Program}{an:Array Oper}{Q:Exit→Act→World→Prop}{i:Nat}{ah:List Nat}{a:Act}{w:World}{o:Oper}(ho:an[i]?=some o)
 (hw:Region.wanted o (yielded an a.tmps)=false)(h:wpOpsIn (wf ro) 0 P an Q ah (a.put o.dst undef) w):wpOpsIn (wf ro) 0 P an Q (i::ah) a w:=by
 simp only[wpOpsIn,ho,hw,f0s,f3w];exact⟨λf _=>d6z ro f,h⟩
theorem c4g{e:Entry}{N:Nat}{F:Frm}{H:a03}{I:Nat→Prop}{ρ:PMap}{a:Act}{w:World}(h:Now E e N F H I ρ a w){an:Array Oper}{j d:Nat}(hg:a2u an.toList j=some d) :
 (∀b,a33 F d = .bool b→yielded an a.tmps j=some b)∧(a33 F d = .tuple []→yielded an a.tmps j=none):=by
 have hd:(an[j]?).bind (·.dst)=some d:=by simpa[a2u]using hg
 have hv:=h.frm.2 d;have aO:∀c,a.tmps.getD d undef=c→c≠undef→a.tmps[d]?=some c:=by
  intro c hc aw;rw[e9u]at hc;cases hx:a.tmps[d]? with
  |none=>rw[hx]at hc;exact absurd hc.symm aw
  |some x=>rw[hx]at hc;simpa using hc
 refine⟨λb hb=>?_,λhb=>?_⟩
 ·rw[hb]at hv;simp only[VRel]at hv;have:=aO _ hv (by simp[undef]);simp[yielded,hd,this]
 ·rw[hb]at hv;simp only[VRel]at hv;obtain⟨cs,hc,cR⟩:=hv;unfold yielded;rw[hd];simp only[f1l];rw[e9u]at hc;cases hx:a.tmps[d]? with
  |none=>rfl
  |some x=>rw[hx]at hc;simp only[e9x]at hc;rw[hc]
theorem b0f(ok:EnvOk E){ro:Option Nat}{call:FuncId→List AV→a03→Option (AV×a03)}(ai:a3v E call){e:Entry}{N:Nat}{an:Array Oper}{R:Type}{k:Frm→a03→Option R}{r:R}
 {Q:Exit→Act→World→Prop}(hQ:∀F H I ρ a w,Now E e N F H I ρ a w→k F H=some r→Q .normal a w) :
 ∀(ah:List Oper) (s:Nat) (log:List LogE) (F:Frm) (H:a03) (I:Nat→Prop) (ρ:PMap) (a:Act) (w:World),ah=an.toList.drop s→Now E e N F H I ρ a w→
  a2g E false N call an.toList ah log F H k=some r→wpOpsIn (wf ro) 0 E.P an Q (List.range' s ah.length) a w
 | [],s,log,F,H,I,ρ,a,w,_,ak,ae=>by simp only[a2g,Bool.not_false,Bool.true_or,e9i]at ae;simp only[e8c,List.range'_zero,wpOpsIn];exact hQ F H I ρ a w ak ae
 |o::ah,s,log,F,H,I,ρ,a,w,cJ,ak,ae=>by
  have ho:an[s]?=some o:=by
   have:(an.toList.drop s)[0]?=some o:=by rw[←cJ];rfl
   rw[f1p]at this;simpa using this
  have fe:ah=an.toList.drop (s+1):=by
   have:(an.toList.drop s).drop 1=ah:=by rw[←cJ];rfl
   rw[List.drop_drop]at this;exact this.symm
  rw[e7g,List.range'_succ];unfold a2g at ae;rw[cond_eq_ite]at ae;split at ae
  case isFalse=>cases ae
  rename_i hd;have ih:=λlog F H I ρ a w ak ae=>b0f (ro:=ro) ok ai hQ ah (s+1) log F H I ρ a w fe ak ae;have exec:∀F0,Now E e N F0 H I ρ a w→(match a0r E false call F0 H o.op with
   |some (v,H',l)=>a2g E false N call an.toList ah (l::log) (a3i F0 o.dst v) H' k
   |none=>none)=some r→Region.wanted o (yielded an a.tmps)=true→wpOpsIn (wf ro) 0 E.P an Q (s::List.range' (s+1) ah.length) a w:=by
   intro F0 cA hr hw;split at hr
   case h_2=>cases hr
   rename_i v H' l hs;exact b52 ho hw (c7g ok ai cA hs hd (λI' ρ' a' w' gQ=>ih _ _ _ I' ρ' a' w' gQ hr))
  have skip:∀F0 fE,Now E e N F0 H I ρ a w→a2g E false N call an.toList ah fE (a3i F0 o.dst (.tuple [])) H k=some r→Region.wanted o (yielded an a.tmps)=false→
   wpOpsIn (wf ro) 0 E.P an Q (s::List.range' (s+1) ah.length) a w:=by
   intro F0 fE cA hr hw;exact c4h ho hw (ih _ _ _ I ρ _ w (cA.skip hd) hr)
  split at ae
  ·rename_i hg;exact exec F ak ae (by simp[Region.wanted,hg])
  ·rename_i j bi hg;split at ae
   case h_1=>cases ae
   rename_i d nO;obtain⟨sV,sU⟩:=c4g ak nO;split at ae
   ·rename_i b hb;have pz:=sV b hb;have jt:=ak.frm.2 d;rw[hb]at jt;have hw:Region.wanted o (yielded an a.tmps)=(b==bi):=by simp[Region.wanted,hg,pz]
    cases b
    ·simp only[e9q]at ae;have cA:=ak.refine (d:=d) (v:=.bool false) jt;cases bi
     ·simp only[e9q]at ae;exact exec _ cA ae (by rw[hw];rfl)
     ·simp only[e9i]at ae;exact skip _ _ cA ae (by rw[hw];rfl)
    ·simp only[e9i]at ae;have cA:=ak.refine (d:=d) (v:=.bool true) jt;cases bi
     ·simp only[e9q]at ae;exact skip _ _ cA ae (by rw[hw];rfl)
     ·simp only[e9i]at ae;exact exec _ cA ae (by rw[hw];rfl)
   ·rename_i hb;have pz:=sU hb;exact skip F _ ak ae (by simp[Region.wanted,hg,pz])
   ·cases ae
end
end Go.Ax
/- AxGc: what may be forgotten: slots behind a region, blocks at a loop's head. -/
namespace Go.Ax
section
variable {E:Env}{e:Entry}{N:Nat}{F:Frm}{H:a03}{I:Nat→Prop}{ρ:PMap}{a:Act}{w:World}
theorem b3o(F:Frm):∀(keep:List Nat) (s:Nat),a33 (a1o keep F) s=if keep.contains s then a33 F s else .junk
 | [],s=>by simp[a1o,a33]
 |t::keep,s=>by
  have ih:=b3o F keep s;simp only[a1o]at ih⊢;simp only[e12,a33,d1q,ih];by_cases pF:t=s
  ·subst pF;simp
  ·have:(s==t)=false:=by simpa using λh=>pF h.symm
   have hc:(t::keep).contains s=keep.contains s:=by rw[List.contains_cons,this,Bool.false_or]
   rw[hc,f0q.2 pF];rfl
theorem Now.keep(h:Now E e N F H I ρ a w)(keep:List Nat):Now E e N (a1o keep F) H I ρ a w:=
 { h with frm:=⟨h.frm.1,λs=>by
  rw[b3o];split
  ·exact h.frm.2 s
  ·simp[VRel]⟩ }
theorem c3o(π:Nat→Option Nat):∀(F:Frm) (s:Nat),a33 (b5h π F) s=ren π (a33 F s)
 | [],s=>by simp[b5h,a33,ren]
 |(t,v)::F,s=>by have ih:=c3o π F s;simp only[b5h]at ih⊢;simp only[e12,a33,d1q,ih];cases h:(t==s)<;>simp
theorem Now.gc(h:Now E e N F H I ρ a w){σ:List Nat}(hn:σ.Nodup)(cL:∀b∈σ,e.m≤b) :
 ∃ρ',Now E e N (b5h (b4u e.m σ) F) (gcH e.m σ H) I ρ' a w:=by
 have al:(gcH e.m σ H).length=e.m+σ.length:=by have:=h.low;simp[gcH,a4z];omega
 have hπ:∀b b' m,b4u e.m σ b=some b'→ρ b=some m→(if b'<e.m then ρ b' else(σ[b'-e.m]?).bind ρ)=some m:=by
  intro b b' m hp hb;simp only[b4u]at hp;rw[cond_eq_ite]at hp;split at hp
  ·rename_i aj;cases hp;rw[e8j (by simpa[e9o]using aj)];exact hb
  ·obtain⟨j,hj,rfl⟩:=a07 hp;rw[e8g (by omega),f2l,a29 hj];exact hb
 refine⟨λb=>if b<e.m then ρ b else(σ[b-e.m]?).bind ρ,h.imm,λb hb=>?_,h.ext,?_,?_,?_,?_,h.marks⟩
 ·show(if b<e.m then ρ b else _)=_;rw[e8j hb];exact h.map b hb
 ·refine h.rel.rename (π:=b4u e.m σ) hπ ?_ ?_
  ·intro b' o' ho;simp only[a02,gcH]at ho;have dl:(H.take e.m).length=e.m:=by have:=h.low;simp;omega
   rcases f1d b' e.m with hb|hb
   ·rw[e8f (by rw[c10,dl];exact hb),e8a,f0v,e8j hb]at ho;cases hx:H[b']? with
    |none=>rw[hx]at ho;simp at ho
    |some ob=>rw[hx]at ho;simp only[e8d,f2f]at ho;obtain⟨o,rfl,rfl⟩:=a07 ho;refine⟨b',o,by simp[a02,hx],?_,rfl⟩;simp only[b4u];rw[cond_eq_ite,e8j (by simpa[e9o]using hb)]
   ·rw[e8h (by rw[c10,dl];exact hb)]at ho;simp only[c10,dl,a4z,e8a]at ho;cases hx:σ[b'-e.m]? with
    |none=>rw[hx]at ho;simp at ho
    |some b=>rw[hx]at ho;simp only[e8d,f2f]at ho;obtain⟨o,eg,rfl⟩:=a07 ho;refine⟨b,o,eg,?_,rfl⟩;have cj:=cL b (c11 hx);simp only[b4u];rw[cond_eq_ite,e8g (by simpa[e9o]using cj),a7z hn hx];simp only[e8d,Option.some.injEq];omega
  ·intro b m hb;split at hb
   ·exact h.rel.dom b m hb
   ·cases hx:σ[b-e.m]? with
    |none=>rw[hx]at hb;simp at hb
    |some b'=>rw[hx]at hb;exact h.rel.dom b' m hb
 ·intro b hb;rw[al]at hb;show(if b<e.m then ρ b else _)=_;rw[e8g (by omega),e8m (by omega)];rfl
 ·refine⟨h.frm.1,λs=>?_⟩;rw[c3o];exact VRel.ren hπ _ (h.frm.2 s)
 ·rw[al];omega
theorem d90{H:a03}{m b:Nat}{o':AObj}(hb:a02 (b3r m H) b=some o'):∃o,b<m∧a02 H b=some o∧o'=b1q m (a4e (a02 H) m 12) o:=by
 simp only[a02,b3r,e8a,f0v]at hb;split at hb
 case isFalse=>simp at hb
 rename_i aj;cases hx:H[b]? with
 |none=>rw[hx]at hb;simp at hb
 |some ob=>rw[hx]at hb;simp only[e8d,f2f]at hb;obtain⟨o,rfl,rfl⟩:=a07 hb;exact⟨o,aj,by simp[a02,hx],rfl⟩
theorem c3p(m:Nat)(H:a03):∀(F:Frm) (s:Nat),a33 (c23 m H F) s = .junk∨a33 (c23 m H F) s=e18 m H (a33 F s)
 | [],s=>.inl (by simp[c23,a33])
 |(t,v)::F,s=>by
  have ih:=c3p m H F s;simp only[c23]at ih⊢;simp only[e12,a33,d1q];cases h:(t==s)
  ·simpa using ih
  ·right;simp
theorem Now.frz(h:Now E e N F H I ρ a w)(j:Nat):∃I' ρ',Now E e N (c23 (e.m+j) H F) (b3r (e.m+j) H) I' ρ' a w:=by
 have al:(b3r (e.m+j) H).length=min (e.m+j) H.length:=by simp[b3r]
 have cL:∀b o',a02 (b3r (e.m+j) H) b=some o'→∃o,b<e.m+j∧a02 H b=some o∧o'=b1q (e.m+j) (a4e (a02 H) (e.m+j) 12) o:=λb o' hb=>d90 hb;refine⟨a3h I ρ (a02 H) (e.m+j),ρ.below (e.m+j) true,λc hc=>.inl (h.imm c hc),λb hb=>?_,h.ext,?_,?_,⟨h.frm.1,λs=>?_⟩,by rw[al];have:=h.low;omega,h.marks.mono (λ_ h=>.inl h) (λ_ _=>rfl)⟩
 ·rw[←h.map b hb];have:b<e.m+j:=by omega
  simp[PMap.below,this]
 ·exact c24 h.rel cL
 ·intro b hb;rw[al]at hb;simp only[PMap.below];split
  ·exact h.nrel b (by omega)
  ·rfl
 ·rcases c3p (e.m+j) H F s with h1|h1
  ·rw[h1];simp[VRel]
  ·rw[h1];simp only[e18];cases hv:a3e (e.m+j) true (a4e (a02 H) (e.m+j) 12) (a33 F s)with
   |none=>simp[VRel]
   |some v'=>exact(a9r (h':=λ_=>none) h.rel hv (h.frm.2 s) (λ_ _ h=>by cases h)).2
theorem Now.drew(h:Now E e N F H I ρ a w):Now E e N F H I ρ a { w with drawn:=w.drawn+1 }:=by
 have s:SameMem w { w with drawn:=w.drawn+1 }:=⟨rfl,rfl,rfl,rfl⟩
 exact⟨h.imm,h.map,h.ext.trans h.imm (s.ext I e.K),h.rel.same s,h.nrel,FRel.mono h.frm (λv c hv=>VRel.mono (w:=w) (w':={ w with drawn:=w.drawn+1 }) (λ_ h=>h) (λ_ _=>rfl) v (λ_ _ h=>h) hv),h.low,h.marks⟩
end
/-! ### a loop that is counted -/
theorem b8l{ro:Option Nat}{P:Program}{c:Code}{Q:Exit→Act→World→Prop}(Inv:Nat→Act→World→Prop)
 (round:∀n a w,Inv (n+1) a w→c.wpIn (wf ro) 0 P (Exit.then (Inv n) Q) a w)(zero:∀a w,¬Inv 0 a w){n:Nat}{a:Act}{w:World}(h:Inv n a w):(Code.loop c).wpIn (wf ro) 0 P Q a w:=by
 have key:∀n a w,Inv n a w→Code.roundsIn (wf ro) 0 P c Q n a w:=by
  intro n
  induction n with
  |zero=>intro a w h;exact absurd h (zero a w)
  |succ n ih=>
   intro a w hI;rw[roundsIn_succ];refine wpIn_mono (round n a w hI) ?_;intro e a w hq;cases e with
   |normal=>exact ih a w hq
   |_=>exact hq
 exact wpIn_loop_rounds n (key n a w h)
end Go.Ax
/- AxLoc: what an operation looks at: the slots of its operands, the blocks that its operands name. -/
namespace Go.Ax
section
variable {E:Env}{n:Nat}{h h':FHeap}
theorem a7c{x:AV}(k:Nat)(hh:∀b∈a0h x,h b=h' b):a24 h k x=a24 h' k x:=by cases x<;>simp only[a0h,e8k,forall_eq]at hh<;>simp only[a24];rw[hh]
theorem c6h{x:AV}(t:TypeId)(hh:∀b∈a0h x,h b=h' b):b88 E h t x=b88 E h' t x:=by unfold b88;generalize E.und t=u;cases x<;>simp only[a0h,e8k,forall_eq]at hh<;>(rcases u with _|d;· rfl)<;>cases d<;>first|rfl|(simp only[hh];done)
theorem c2i{x:AV}(t:TypeId)(hh:∀b∈a0h x,h b=h' b):a60 E h t x=a60 E h' t x:=by cases x<;>simp only[a0h,e8k,forall_eq]at hh<;>simp only[a60];rw[hh]
theorem c07{p x:AV}(t:TypeId)(hh:∀b∈a0h p,h b=h' b):a7h E h t p x=a7h E h' t p x:=by cases p<;>simp only[a0h,e8k,forall_eq]at hh<;>simp only[a7h];rw[hh]
theorem c08{x:AV}(t:TypeId)(lo hi mx:Option AV)(hh:∀b∈a0h x,h b=h' b):a59 E h t x lo hi mx=a59 E h' t x lo hi mx:=by unfold a59;generalize E.und t=u;cases x<;>simp only[a0h,e8k,forall_eq]at hh<;>(rcases u with _|d;· rfl)<;>cases d<;>first|rfl|(simp only[hh];done)
theorem b1r{x:AV}(t:TypeId)(i:AV)(hh:∀b∈a0h x,h b=h' b):a0v E h t x i=a0v E h' t x i:=by unfold a0v;generalize E.und t=u;cases x<;>simp only[a0h,e8k,forall_eq]at hh<;>(rcases u with _|d;· rfl)<;>cases d<;>first|rfl|(simp only[hh];done)
theorem c0d{x:AV}(hh:∀b∈a0h x,h b=h' b):b1l h x=b1l h' x:=by cases x<;>simp only[a0h,e8k,forall_eq]at hh<;>simp only[b1l];rw[hh]
theorem b87{x:AV}(t:TypeId)(k:AV)(ok:Bool)(hh:∀b∈a0h x,h b=h' b):a5v E h t x k ok=a5v E h' t x k ok:=by simp only[a5v,c0d hh]
theorem a88{x:AV}(t:TypeId)(k:AV)(hh:∀b∈a0h x,h b=h' b):a8x E h t x k=a8x E h' t x k:=by unfold a8x;generalize E.und t=u;cases x<;>simp only[a0h,e8k,forall_eq]at hh<;>(rcases u with _|d;· rfl)<;>cases d<;>first|rfl|(simp only[hh];done)
theorem b12{x:AV}(s v:AV)(hh:∀b∈a0h x,h b=h' b):a4t h x s v=a4t h' x s v:=by
 unfold a4t;split
 ·rw[hh _ (by simp[a0h])]
 ·rfl
theorem b8m{x:AV}(hh:∀b∈a0h x,h b=h' b):b53 h x=b53 h' x:=by cases x<;>simp only[a0h,e8k,forall_eq]at hh<;>simp only[b53];rw[hh]
theorem c0f{x:AV}(t:TypeId)(k:AV)(ok:Bool)(hh:∀b∈a0h x,h b=h' b):b4i E h t x k ok=b4i E h' t x k ok:=by simp only[b4i,b8m hh]
theorem b4e{x:AV}(t:TypeId)(k v:AV)(hh:∀b∈a0h x,h b=h' b):b4x E h t x k v=b4x E h' t x k v:=by
 unfold b4x;split
 ·rw[hh _ (by simp[a0h])]
 ·rfl
theorem c2j{x:AV}(t:TypeId)(k:AV)(hh:∀b∈a0h x,h b=h' b):c6k E h t x k=c6k E h' t x k:=by
 unfold c6k;split
 ·rw[hh _ (by simp[a0h])]
 ·rfl
theorem b8c{x:AV}(hh:∀b∈a0h x,h b=h' b):b13 h x=b13 h' x:=by
 unfold b13;split
 ·rw[hh _ (by simp[a0h])]
 ·rfl
theorem c2h{x:AV}(s:Bool)(hh:∀b∈a0h x,h b=h' b):c0c h x s=c0c h' x s:=by
 unfold c0c;split
 ·rw[hh _ (by simp[a0h])]
 ·rfl
theorem c0g{x:AV}(s d:TypeId)(hh:∀b∈a0h x,h b=h' b):a6r E h s d x=a6r E h' s d x:=by
 have key:=λk=>a7c k hh;unfold a6r;split
 ·rfl
 ·rw[key]
 ·rfl
theorem b8e{s x:AV}(st xt:TypeId)(hs:∀b∈a0h s,h b=h' b)(hx:∀b∈a0h x,h b=h' b):a4h E h n st xt s x=a4h E h' n st xt s x:=by cases s<;>simp only[a0h,e8k,forall_eq]at hs<;>simp only[a4h,a7c _ hx];rw[hs]
theorem c2k{d x:AV}(dt:TypeId)(hs:∀b∈a0h d,h b=h' b)(hx:∀b∈a0h x,h b=h' b):c6l E h dt d x=c6l E h' dt d x:=by cases d<;>simp only[a0h,e8k,forall_eq]at hs<;>simp only[c6l,a7c _ hx];rw[hs]
theorem c0h{x:AV}(t:TypeId)(hh:∀b∈a0h x,h b=h' b):b6m E h t x=b6m E h' t x:=by unfold b6m;generalize E.und t=u;cases x<;>simp only[a0h,e8k,forall_eq]at hh<;>(rcases u with _|d;· rfl)<;>cases d<;>first|rfl|(simp only[hh];done)
theorem c6n(b:Builtin)(ts:List TypeId)(args:List AV)(hh:∀b∈args.flatMap a0h,h b=h' b):d5i E n h b ts args=d5i E n h' b ts args:=by
 unfold d5i;split
 ·rw[c6h _ (λb hb=>hh b (by simpa using hb))]
 ·rfl
 ·rw[b8e _ _ (λb hb=>hh b (by simp[hb])) (λb hb=>hh b (by simp[hb]))]
 ·rw[c2k _ (λb hb=>hh b (by simp[hb])) (λb hb=>hh b (by simp[hb]))]
 ·rw[c0h _ (λb hb=>hh b (by simpa using hb))]
 ·rw[c2j _ _ (λb hb=>hh b (by simp[hb]))]
 ·rfl
 ·rfl
 ·rfl
theorem d18{op:Op}{v:Operand→AV}(hh:∀b∈a89 op v,h b=h' b):aop E n h op v=aop E n h' op v:=by
 cases op<;>simp only[a89]at hh<;>simp only[aop]
 case load=>rw[c2i _ hh]
 case store=>rw[c07 _ hh]
 case convert=>rw[c0g _ _ hh]
 case slice=>rw[c08 _ _ _ _ hh]
 case indexAddr=>rw[b1r _ _ hh]
 case lookup=>rw[b87 _ _ _ hh,c0f _ _ _ hh]
 case mapUpdate=>simp only[a1y,a88 _ _ hh,b4e _ _ _ hh]
 case insert=>simp only[a1y,a88 _ _ hh,b4e _ _ _ hh]
 case mapEntry=>simp only[b03,a88 _ _ hh]
 case entryStore=>rw[b12 _ _ hh]
 case next=>rw[c2h _ hh]
 case entry=>rw[b8c hh]
 case call c=>
  obtain⟨callee,args,ts⟩:=c;cases callee with
  |builtin b=>simp only at hh⊢;exact c6n _ _ _ (by simpa[List.flatMap_map]using hh)
  |_=>rfl
theorem d19{op:Op}{v v':Operand→AV}(hv:∀x∈op.operands,v x=v' x):aop E n h op v=aop E n h op v':=by
 have kd:∀ps:Array (Nat×Operand),(∀x∈(ps.toList.map (·.2)).toArray,v x=v' x)→(ps.toList.map λp=>(p.1,v p.2))=(ps.toList.map λp=>(p.1,v' p.2)):=λps hp=>f0i λp hm=>by rw[hp p.2 (by simp only[List.mem_toArray,f0r];exact⟨p,hm,rfl⟩)]
 cases op<;>simp only[Op.operands]at hv<;>simp only[aop]
 case build t ps=>rw[kd ps hv]
 case buildSlice t n ps=>rw[kd ps hv]
 case makeFunc fn first fW=>rw[f0i (l:=first.toList) λx hx=>hv x (by simp only[Array.mem_append];exact .inl (by simpa using hx)),f0i (l:=fW.toList) λx hx=>hv x (by simp only[Array.mem_append];exact .inr (by simpa using hx))]
 case call c=>
  obtain⟨callee,args,ts⟩:=c;cases callee with
  |builtin b=>simp only;rw[f0i (l:=args.toList) λx hx=>hv x (by simp only[Call.operands];simp;simpa using hx)]
  |_=>rfl
 case makeMap t r=>cases r<;>simp_all
 case slice t x lo hi mx=>cases lo<;>cases hi<;>cases mx<;>simp_all
 all_goals (first|rfl|(simp_all;done))
end
end Go.Ax
/- AxOrd: operations in any order that their edges allow: what the executed ones amount to, in text order. -/
namespace Go.Ax
/-! ### lists that grow at the front, numbered from the back -/
section
variable {R V:Type}
def nth:List R→Nat→Option R
 | [],_=>none
 |r::ah,j=>if j=ah.length then some r else nth ah j
def pre:List R→Nat→List R
 | [],_=>[]
 |_::ah,i=>if i=ah.length then ah else pre ah i
theorem b2z:∀{l:List R} {i:Nat} {r:R},nth l i=some r→i<l.length
 | [],i,r,h=>by simp[nth]at h
 |a::ah,i,r,h=>by
  unfold nth at h;split at h
  ·simp;omega
  ·have:=b2z h;simp;omega
theorem c3a:∀{l:List R} {i:Nat},i<l.length→∃r,nth l i=some r
 | [],i,h=>by simp at h
 |a::ah,i,h=>by
  unfold nth;split
  ·exact⟨a,rfl⟩
  ·exact c3a (by simp at h;omega)
theorem b1w{a:R}{l:List R}{i:Nat}{r:R}(h:nth l i=some r):nth (a::l) i=some r:=by have:=b2z h;unfold nth;rw[e8g (by omega)];exact h
theorem b77(a:R)(l:List R):nth (a::l) l.length=some a:=by simp[nth]
def gL(o:R→Nat→Option V)(g0:Nat→V)(S:Nat→Bool):List R→Nat→V
 | []=>g0
 |r::ah=>if S ah.length then λs=>(o r s).getD (gL o g0 S ah s)else gL o g0 S ah
def a41:Nat→Bool:=λ_=>true
def b94(S:Nat→Bool)(i:Nat):Nat→Bool:=λj=>j==i||S j
variable {o:R→Nat→Option V}{g0:Nat→V}{S:Nat→Bool}
theorem c3q{s:Nat}:∀{l:List R},(∀j r',nth l j=some r'→(o r' s).isSome→S j=true)→gL o g0 S l s=gL o g0 a41 l s
 | [],_=>rfl
 |a::ah,h=>by
  have ih:=c3q (l:=ah) (λj r' hj=>h j r' (b1w hj));simp only[gL,a41];cases ha:o a s with
  |none=>split<;>simp[ha,ih]
  |some v=>rw[h _ a (b77 a ah) (by simp[ha])];simp[ha]
theorem d8y{i s:Nat}{r:R}:∀{l:List R},nth l i=some r→(∀j r',nth l j=some r'→(o r' s).isSome→(j<i→S j=true)∧(i≤j→S j=false))→
 gL o g0 S l s=gL o g0 a41 (pre l i) s
 | [],h,_=>by simp[nth]at h
 |a::ah,h,hs=>by
  have kJ:i≤ah.length→gL o g0 S (a::ah) s=gL o g0 S ah s:=by
   intro hi;simp only[gL];split
   ·rename_i hS;cases ha:o a s with
    |none=>simp[ha]
    |some v=>rw[(hs _ a (b77 a ah) (by simp[ha])).2 hi]at hS;cases hS
   ·rfl
  unfold nth at h;split at h
  ·rename_i hi;subst hi;rw[kJ (e9k _)];simp only[pre,f1a];exact c3q (λj r' hj ho=>(hs j r' (b1w hj) ho).1 (b2z hj))
  ·rename_i hi;have:=b2z h;rw[kJ (by omega)];simp only[pre,e8g hi];exact d8y h (λj r' hj ho=>hs j r' (b1w hj) ho)
theorem b7n{S':Nat→Bool}:∀{l:List R},(∀j,j<l.length→S j=S' j)→gL o g0 S l=gL o g0 S' l
 | [],_=>rfl
 |a::ah,h=>by simp only[gL];rw[h ah.length (by simp),b7n (l:=ah) (λj hj=>h j (by simp;omega))]
theorem d00{i:Nat}{r:R}:∀{l:List R},nth l i=some r→S i=false→(∀k r',nth l k=some r'→i<k→S k=true→∀s,(o r s).isSome→o r' s=none)→
 gL o g0 (b94 S i) l=λs=>(o r s).getD (gL o g0 S l s)
 | [],h,_,_=>by simp[nth]at h
 |a::ah,h,hS,hk=>by
  unfold nth at h;split at h
  ·rename_i hi;cases h;have:gL o g0 (b94 S i) ah=gL o g0 S ah:=b7n λj hj=>by simp[b94];omega
   simp only[gL,this];subst hi;simp[b94,hS]
  ·rename_i hi;have aj:=b2z h;have ih:=d00 h hS (λk r' hr=>hk k r' (b1w hr));simp only[gL,ih];have hp:b94 S i ah.length=S ah.length:=by simp[b94];intro he;omega
   rw[hp];split
   ·rename_i j6
    funext s
    cases hr:o r s with
    |none=>simp
    |some v=>rw[hk _ a (b77 a ah) aj j6 s (by simp[hr])];simp
   ·rfl
end
/-! ### edges -/
def a7d(all:List Oper)(S:Nat→Bool)(j:Nat):Prop:=∀o,all[j]?=some o→∀e∈o.after.toList,Region.binds .any e=true→S e.on=true
theorem b3j{all:List Oper}{S:Nat→Bool}(hS:∀j,S j=true→a7d all S j)(i:Nat):∀n j,a7d all S j→a9q all i n j=true→S i=true
 |0,j,_,h=>by simp[a9q]at h
 |n+1,j,hj,h=>by
  unfold a9q at h;split at h
  ·rename_i o ho;simp only[List.any_eq_true,e7h,f2v,f2p]at h;obtain⟨e,he,hb,h⟩:=h;have mi:=hj o ho e he hb;rcases h with rfl|h
   ·exact mi
   ·exact b3j hS i n e.on (hS _ mi) h
  ·cases h
theorem b5r{all:List Oper}{S:Nat→Bool}(hS:∀j,S j=true→a7d all S j){i j:Nat}(hj:a7d all S j)(h:a47 all i j=true):S i=true:=by
 unfold a47 at h;rw[f2v]at h;rcases h with h|h
 ·unfold d6f at h;split at h
  ·rename_i o ho;simp only[List.any_eq_true,e7h,f2p]at h;obtain⟨e,he,hb,rfl⟩:=h;exact hj o ho e he hb
  ·cases h
 ·exact b3j hS i _ j hj h
theorem b9c{all:List Oper}{j:Nat}{y:LogE}:∀{l:List LogE},logOk.logRow all j y l.length l=true→∀i x,nth l i=some x→x.clash y=true→a47 all i j=true
 | [],_,i,x,h,_=>by simp[nth]at h
 |a::ah,hl,i,x,h,hc=>by
  simp only[e7g,logOk.logRow,e7h,f2v,f0x]at hl;unfold nth at h;split at h
  ·rename_i hi;cases h;subst hi;rcases hl.1 with h'|h'
   ·rw[hc]at h';cases h'
   ·exact h'
  ·exact b9c hl.2 i x h hc
theorem b1z{all:List Oper}:∀{l:List LogE},logOk all l.length l=true→∀i j x y,i<j→nth l i=some x→nth l j=some y→x.clash y=true→a47 all i j=true
 | [],_,i,j,x,y,_,h,_,_=>by simp[nth]at h
 |a::ah,hl,i,j,x,y,a8,hi,hj,hc=>by
  simp only[e7g,logOk,e7h]at hl;unfold nth at hj;split at hj
  ·rename_i rU;cases hj;subst rU;unfold nth at hi;rw[e8g (by omega)]at hi;exact b9c hl.1 i x hi hc
  ·have:=b2z hj;unfold nth at hi;rw[e8g (by omega)]at hi;exact b1z hl.2 i j x y a8 hi hj hc
/-! ### what is asked of a region's text -/
def b14(l:List Operand):List Nat:=l.filterMap λ|.tmp t=>some t|_=>none
def looks(all:List Oper)(o:Oper):List Nat:=
 b14 o.op.operands.toList++(match o.guard with
  |some (g,_)=>(a2u all g).toList
  |none=>[])
def a5n(all:List Oper)(x y:Oper):Bool:=
 (match x.dst with|some d=>(looks all y).contains d|none=>false) ||
 (match y.dst with|some d=>(looks all x).contains d|none=>false) ||
 (match x.dst,y.dst with|some d,some d'=>d==d'|_,_=>false)
def b41(all:List Oper)(j:Nat)(y:Oper):Nat→List Oper→Bool
 |_,[]=>true
 |i,x::r=>(Nat.ble j i || !(a5n all x y)||a47 all i j)&&b41 all j y (i+1) r
def a9x(all:List Oper):Nat→List Oper→Bool
 |_,[]=>true
 |j,y::r=>y.after.toList.all (λe=>!(Region.binds .any e)||Nat.blt e.on j)&&b41 all j y 0 all&&a9x all (j+1) r
def c3z(all:List Oper):Bool:=a9x all 0 all
theorem b6e{all:List Oper}{j:Nat}{y:Oper}:∀{l:List Oper} {s:Nat},b41 all j y s l=true→∀i x,l[i]?=some x→s+i<j→a5n all x y=true→a47 all (s+i) j=true
 | [],s,_,i,x,h,_,_=>by simp at h
 |a::r,s,hl,0,x,h,a8,hm=>by
  simp only[b41,e7h,f2v,f0x,f1h]at hl;simp only[f0k,Option.some.injEq]at h;subst h;rcases hl.1 with (h|h)|h
  ·omega
  ·rw[hm]at h;cases h
  ·exact h
 |a::r,s,hl,i+1,x,h,a8,hm=>by simp only[b41,e7h]at hl;have:=b6e hl.2 i x (by simpa using h) (by omega) hm;rw[show s+(i+1)=s+1+i by omega];exact this
theorem b40{all:List Oper}:∀{l:List Oper} {s:Nat},a9x all s l=true→∀j y,l[j]?=some y→
 (∀e∈y.after.toList,Region.binds .any e=true→e.on<s+j)∧∀i x,all[i]?=some x→i<s+j→a5n all x y=true→a47 all i (s+j)=true
 | [],s,_,j,y,h=>by simp at h
 |a::r,s,hl,0,y,h=>by simp only[a9x,e7h,e9r,f2v,f0x,e9o]at hl;simp only[f0k,Option.some.injEq]at h;subst h;refine⟨λe he hb=>(hl.1.1 e he).resolve_left (by simp[hb]),λi x hx hi hm=>?_⟩;have:=b6e hl.1.2 i x hx (by omega) hm;simpa using this
 |a::r,s,hl,j+1,y,h=>by simp only[a9x,e7h]at hl;have:=b40 hl.2 j y (by simpa using h);rw[show s+(j+1)=s+1+j by omega];exact this
theorem a9y{all:List Oper}(h:c3z all=true){j:Nat}{y:Oper}(hy:all[j]?=some y) :
 (∀e∈y.after.toList,Region.binds .any e=true→e.on<j)∧∀i x,all[i]?=some x→i<j→a5n all x y=true→a47 all i j=true:=by
 have:=b40 h j y hy;simpa using this
end Go.Ax
/- AxDraw: a region that draws its order: one run in text order stands for a41 order. -/
namespace Go.Ax
theorem d17{E:Env}{n n':Nat}{h:FHeap}{op:Op}{v:Operand→AV}{x:AV}{e:Eff}(ha:aop E n h op v=some (x,e))(he:e.fresh=false):aop E n' h op v=some (x,e):=by
 have app:∀st xt s y,a4h E h n st xt s y=some (x,e)→a4h E h n' st xt s y=some (x,e):=by
  intro st xt s y hy;unfold a4h at hy⊢;simp only[cond_eq_ite]at hy⊢
  repeat' split at hy
  all_goals first
   |(cases hy;done)
   |(cases hy;simp[Eff.fresh]at he;done)
   |(simp_all;done)
   |(simp_all;rename_i hh;exact hh.2)
 have qX:∀st xt s y,a2r E n st xt s y=some (x,e)→a2r E n' st xt s y=some (x,e):=by
  intro st xt s y hy;unfold a2r at hy⊢;simp only[cond_eq_ite]at hy⊢
  repeat' split at hy
  all_goals first
   |(cases hy;done)
   |(cases hy;simp[Eff.fresh]at he;done)
   |(simp_all;done)
 have blt:∀b ts args,d5i E n h b ts args=some (x,e)→d5i E n' h b ts args=some (x,e):=by
  intro b ts args hb;unfold d5i at hb⊢;split at hb
  all_goals first
   |exact hb
   |exact app _ _ _ _ hb
   |(rcases a96 hb with hb|hb<;>first|(rw[app _ _ _ _ hb];rfl)|(rw[c2m hb n' h,qX _ _ _ _ hb];rfl))
 cases op
 case alloc t=>
  simp only[aop,d9y,cond_eq_ite]at ha
  repeat' split at ha
  all_goals cases ha
  simp[Eff.fresh]at he
 case box t y=>
  simp only[aop,e0a,cond_eq_ite]at ha
  repeat' split at ha
  all_goals cases ha
  all_goals simp[Eff.fresh]at he
 case buildSlice=>
  simp only[aop,a3a,cond_eq_ite]at ha
  repeat' split at ha
  all_goals cases ha
  all_goals simp[Eff.fresh]at he
 case makeMap=>
  simp only[aop]at ha
  repeat' split at ha
  all_goals cases ha
  all_goals simp[Eff.fresh]at he
 case makeSlice=>
  simp only[aop,a3z,cond_eq_ite]at ha
  repeat' split at ha
  all_goals cases ha
  all_goals simp[Eff.fresh]at he
 case range=>
  simp only[aop]at ha;rcases a96 ha with ha|ha
  ·simp only[c4a]at ha
   repeat' split at ha
   all_goals cases ha
   all_goals simp[Eff.fresh]at he
  ·simp only[b85,cond_eq_ite]at ha
   repeat' split at ha
   all_goals cases ha
   all_goals simp[Eff.fresh]at he
 case call c=>
  obtain⟨callee,args,ts⟩:=c;cases callee with
  |builtin b=>exact blt _ _ _ ha
  |_=>cases ha
 all_goals exact ha
structure Rec where
 dst:Option Nat
 v:AV
 ov:Nat→Option (Option AObj)
 fresh:Nat
 log:LogE
def fov(r:Rec)(s:Nat):Option AV:=if r.dst=some s then some r.v else none
def hov(r:Rec)(b:Nat):Option (Option AObj):=r.ov b
def cnt(m0:Nat):List Rec→Nat
 | []=>m0
 |r::ah=>cnt m0 ah+r.fresh
def c5f(m0:Nat)(S:Nat→Bool):List Rec→Nat→Prop
 | [],_=>False
 |r::ah,b=>(S ah.length=true∧cnt m0 ah≤b∧b<cnt m0 ah+r.fresh)∨c5f m0 S ah b
theorem c1o{m0:Nat}{S:Nat→Bool}:∀{l:List Rec} {b:Nat},c5f m0 S l b→b<cnt m0 l
 | [],b,h=>h.elim
 |r::ah,b,h=>by
  simp only[cnt];rcases h with ⟨_,_,h⟩|h
  ·exact h
  ·have:=c1o h;omega
theorem d0o{m0:Nat}{i:Nat}{r:Rec}:∀{l:List Rec},nth l i=some r→cnt m0 (pre l i)+r.fresh≤cnt m0 l
 | [],h=>by simp[nth]at h
 |a::ah,h=>by
  unfold nth at h;simp only[pre,cnt];split at h
  ·rename_i hi;cases h;rw[e8j hi];omega
  ·rename_i hi;have:=d0o (m0:=m0) h;rw[e8g hi];omega
theorem c8s{m0:Nat}{S:Nat→Bool}{i:Nat}{r:Rec}{b:Nat}:∀{l:List Rec},nth l i=some r→cnt m0 (pre l i)≤b→b<cnt m0 (pre l i)+r.fresh→c5f m0 S l b→S i=true
 | [],h,_,_,_=>by simp[nth]at h
 |a::ah,h,h1,h2,hm=>by
  unfold nth at h;split at h
  ·rename_i hi;cases h;simp only[pre,e8j hi]at h1 h2;rcases hm with ⟨hS,_⟩|hm
   ·rw[hi];exact hS
   ·have:=c1o hm;omega
  ·rename_i hi;simp only[pre,e8g hi]at h1 h2;have:=d0o (m0:=m0) h;rcases hm with ⟨_,r7,_⟩|hm
   ·omega
   ·exact c8s h h1 h2 hm
theorem b9a{m0:Nat}{S:Nat→Bool}{i:Nat}{r:Rec}{b:Nat}:∀{l:List Rec},nth l i=some r→(c5f m0 S l b∨(cnt m0 (pre l i)≤b∧b<cnt m0 (pre l i)+r.fresh))→c5f m0 (b94 S i) l b
 | [],h,_=>by simp[nth]at h
 |a::ah,h,hb=>by
  have mono:∀{l:List Rec},c5f m0 S l b→c5f m0 (b94 S i) l b:=by
   intro l
   induction l with
   |nil=>exact λh=>h
   |cons a ah ih=>exact λh=>h.imp (λ⟨h1,h2⟩=>⟨by simp[b94,h1],h2⟩) ih
  unfold nth at h;rcases hb with hb|⟨cG,eb⟩
  ·exact mono hb
  ·split at h
   ·rename_i hi;cases h;simp only[pre,e8j hi]at cG eb;exact .inl ⟨by simp[b94,hi],cG,eb⟩
   ·rename_i hi;simp only[pre,e8g hi]at cG eb;exact .inr (b9a h (.inr ⟨cG,eb⟩))
structure DNow(E:Env)(e:Entry)(N m0:Nat)(C:Nat→Prop)(f:Nat→AV)(h:FHeap)(I:Nat→Prop)(ρ:PMap)(a:Act)(w:World):Prop where
 imm:∀c,e.I c→I c
 map:∀b,b<e.m→ρ b=e.ρ b
 ext:Ext e.I e.K e.w w
 rel:HRel E.G I e.K ρ h w
 nrel:∀b,m0≤b→¬C b→ρ b=none
 fin:∃M,NRel ρ M
 size:a.tmps.size=N
 frm:∀s,VRel I w ρ (f s) (a.tmps.getD s undef)
 marks:Marks e I w a.defers
def opvf(E:Env)(f:Nat→AV):Operand→AV
 |.tmp t=>f t
 |.const v=>c41 v
 |.global g=>match E.G g with|some cs=>.iptr cs|none=>.junk
 |.func f=>.func (.func f) [] []
section
variable {E:Env}{e:Entry}{N m0:Nat}{C:Nat→Prop}{f:Nat→AV}{h:FHeap}{I:Nat→Prop}{ρ:PMap}{a:Act}{w:World}
theorem DNow.opvf(d:DNow E e N m0 C f h I ρ a w)(x:Operand):VRel I w ρ (opvf E f x) (a.eval x):=by
 cases x with
 |tmp t=>exact d.frm t
 |const v=>exact c00 v
 |global g=>
  simp only[Ax.opvf,Act.eval];cases hg:E.G g with
  |none=>simp[VRel]
  |some cs=>obtain⟨h1,h2⟩:=d.rel.glob g cs hg;simp only[VRel];exact⟨g,0,rfl,h1,h2⟩
 |func f=>simp only[Ax.opvf,Act.eval,VRel];exact⟨#[],#[],rfl,by simp[VRels],by simp[VRels]⟩
theorem c5d{t:Nat}{l:List Operand}(h:Operand.tmp t∈l):t∈b14 l:=by simp only[b14,List.mem_filterMap];exact⟨_,h,rfl⟩
theorem b2y{F:Frm}{l:List Operand}(hf:∀s∈b14 l,f s=a33 F s):∀x∈l,opv E F x=opvf E f x:=by
 intro x hx;cases x with
 |tmp t=>exact(hf t (c5d hx)).symm
 |_=>rfl
theorem b0i{I':Nat→Prop}{w':World}{ρ':PMap}(hv:∀(v:AV) (c:Value),VRel I w ρ v c→VRel I' w' ρ' v c)(bF:a.tmps.size=N)(hf:∀s,VRel I w ρ (f s) (a.tmps.getD s undef)){d:Option Nat}
 (hd:a6n N d=true){v:AV}{c:Value}(hc:VRel I' w' ρ' v c):∀s,VRel I' w' ρ' ((if d=some s then some v else none).getD (f s)) ((a.put d c).tmps.getD s undef):=by
 intro s;cases d with
 |none=>simpa[Act.put]using hv _ _ (hf s)
 |some d=>
  have aj:d<N:=by simpa[a6n,e9o]using hd
  simp only[Act.put,e9u,f0m,bF,Option.some.injEq];split
  ·subst s;simpa[aj]using hc
  ·have:=hv _ _ (hf s);simpa[e9u]using this
theorem a8i{d:Option Nat}{c:Value}:(a.put d c).tmps.size=a.tmps.size:=by cases d<;>simp[Act.put]
def c6p(n:Nat):Eff→Nat→Option (Option AObj)
 |.none,_=>none
 |.new o,b=>if b=n then some (some o)else none
 |.set b0 o,b=>if b=b0 then some (some o)else none
 |.kill b0 o,b=>if b=n then some (some o)else if b=b0 then some none else none
theorem e3u(h:FHeap)(n:Nat)(e:Eff):h.eff n e=λb=>(c6p n e b).getD (h b):=by
 funext b
 cases e<;>simp only[FHeap.eff,FHeap.set,c6p]
 ·rfl
 ·split<;>rfl
 ·split<;>rfl
 ·split
  ·rfl
  ·split<;>rfl
theorem d9f{H:a03}{e:Eff}(hf:e.fits H.length=true):a02 (b0x H e)=λb=>(c6p H.length e b).getD (a02 H b):=by
 funext b
 cases e with
 |none=>rfl
 |new o=>
  simp only[b0x,a02,c6p];split
  ·subst b;simp
  ·rcases f1d b H.length with h1|h1
   ·rw[e8f h1];rfl
   ·rw[e8m (by simp;omega),e8m (by omega)];rfl
 |set b1 o=>
  have cG:b1<H.length:=by simpa[Eff.fits,e9o]using hf
  simp only[b0x,a02,c6p,e8n];split
  ·subst b;simp[cG]
  ·rename_i aw;rw[e8g (λe=>aw e.symm)];rfl
 |kill b1 o=>
  have cG:b1<H.length:=by simpa[Eff.fits,e9o]using hf
  simp only[b0x,a02,c6p];split
  ·subst b;rw[e8h (by simp)];simp
  ·rcases f1d b H.length with h1|h1
   ·rw[e8f (by simpa using h1),e8n];split
    ·rename_i aw;subst aw;simp[cG]
    ·rename_i aw ik;rw[e8g (λe=>ik e.symm)];rfl
   ·rw[e8m (by simp;omega),e8g (by omega),e8m h1];rfl
theorem c8a{n b:Nat}{e:Eff}(h:(c6p n e b).isSome=true):b∈e.keys n:=by
 cases e<;>simp only[c6p]at h
 ·simp at h
 ·split at h
  ·subst b;simp[Eff.keys]
  ·simp at h
 ·split at h
  ·subst b;simp[Eff.keys]
  ·simp at h
 ·split at h
  ·subst b;simp[Eff.keys]
  ·split at h
   ·subst b;simp[Eff.keys]
   ·simp at h
end
end Go.Ax
/- AxDraw2: one operation of a region that draws its order. -/
namespace Go.Ax
section
variable {E:Env}{e:Entry}{N m0:Nat}
theorem b15{hp gd:FHeap}{σ:List Nat}(h:∀b∈σ,hp b=gd b):a5m hp σ=a5m gd σ:=by unfold a5m;exact f0i λb hb=>by rw[h b hb]
def b8f(E:Env)(ro:Option Nat)(e:Entry)(N m0 n:Nat)(o:Oper)(fp:Nat→AV)(hp:FHeap)(v:AV)(ov:Nat→Option (Option AObj))(fresh:Nat)(l:LogE):Prop:=
 ∀{C:Nat→Prop} {f:Nat→AV} {h:FHeap} {I:Nat→Prop} {ρ:PMap} {a:Act} {w:World},DNow E e N m0 C f h I ρ a w→(∀s∈b14 o.op.operands.toList,f s=fp s)→(∀b∈l.needs,h b=hp b)→(∀b,n≤b→b<n+fresh→¬C b)→
  ∀{K:Act→World→Prop} {Q:Exit→Act→World→Prop},(∀I' ρ' a' w',DNow E e N m0 (λb=>C b∨(n≤b∧b<n+fresh)) (λs=>((if o.dst=some s then some v else none).getD (f s))) (λb=>(ov b).getD (h b)) I' ρ' a' w'→K a' w')→
   o.wpIn (wf ro) 0 E.P a w K Q
def Eff.nf(e:Eff):Nat:=if e.fresh=true then 1 else 0
theorem d56(ok:EnvOk E){ro:Option Nat}{F:Frm}{H:a03}{o:Oper}{v:AV}{eff:Eff}(cL:e.m≤m0)(cA:m0≤H.length)(hd:a6n N o.dst=true)(ha:aop E H.length (a02 H) o.op (opv E F)=some (v,eff)) :
 b8f E ro e N m0 H.length o (a33 F) (a02 H) v (c6p H.length eff) eff.nf ⟨a89 o.op (opv E F),eff.keys H.length⟩:=by
 intro C f h I ρ a w ak hf hh hC K Q hK;have dQ:=b2y (E:=E) hf;have nu:∀x∈o.op.operands,opv E F x=opvf E f x:=λx hx=>dQ x (by simpa using hx);have mz:aop E H.length h o.op (opvf E f)=some (v,eff):=by rw[←d19 nu,d18 (h':=a02 H) hh];exact ha
 obtain⟨M,hM⟩:=ak.fin;obtain⟨n',bf,hρ',oe⟩:∃n',(eff.fresh=true→n'=H.length)∧ρ n'=none∧aop E n' h o.op (opvf E f)=some (v,eff):=by
  cases dT:eff.fresh with
  |true=>exact⟨H.length,λ_=>rfl,ak.nrel _ cA (hC _ (e9k _) (by simp[Eff.nf,dT])),mz⟩
  |false=>exact⟨M,(by simp),hM _ (e9k _),d17 mz dT⟩
 have dG:h n'=none:=by
  cases hx:h n' with
  |none=>rfl
  |some ob=>obtain⟨m,h1,_⟩:=ak.rel.live _ _ hx;rw[hρ']at h1;cases h1
 obtain⟨x,w',c,ρ',ae,hx,step,hv,hm⟩:=d6n ok ak.rel dG hρ' oe ak.opvf;have hov:h.eff n' eff=λb=>(c6p H.length eff b).getD (h b):=by
  rw[e3u];cases dT:eff.fresh with
  |true=>rw[bf dT]
  |false=>cases eff<;>simp[Eff.fresh]at dT<;>rfl
 have gw:∀b,(eff.fresh=true→b≠H.length)→ρ' b=ρ b:=by
  intro b hb;cases dT:eff.fresh with
  |true=>exact hm.1 b (by rw[bf dT];exact hb dT)
  |false=>rw[hm.2 dT]
 have aS:DNow E e N m0 (λb=>C b∨(H.length≤b∧b<H.length+eff.nf)) (λs=>((if o.dst=some s then some v else none).getD (f s))) (λb=>(c6p H.length eff b).getD (h b)) I ρ' (a.put o.dst c) w':=by
  refine⟨ak.imm,λb hb=>?_,ak.ext.trans ak.imm step.ext,hov▸step.rel,λb hb hc=>?_,⟨max M (H.length+1),λb hb=>?_⟩,by rw[a8i];exact ak.size,?_,by rw[a2x];exact ak.marks.mono (λ_ h=>h) (λc hc=>step.ext.keep c (.inl hc))⟩
  ·rw[gw b (λ_=>by omega)];exact ak.map b hb
  ·rw[gw b (λhf he=>hc (.inr (by simp only[Eff.nf,hf,f1a];omega)))];exact ak.nrel b hb (λh=>hc (.inl h))
  ·rw[gw b (λ_=>by omega)];exact hM b (by omega)
  ·exact b0i (λv c hv=>step.vrel hv) ak.size ak.frm hd hv
 refine a7l (b4h ha) ?_;rw[ae];rcases hx with rfl|⟨rfl,rfl⟩
 ·rw[Oper.uponIn_value];exact hK I ρ' _ _ aS
 ·rw[Oper.uponIn_skip];exact hK I ρ' _ _ aS
theorem d0w{g:FuncId}{run:List AV→a03→Option (AV×a03)}(ae:b08 E g run){args:List AV}{H H':a03}{v:AV}{σ:List Nat}
 (ai:a2f run args H=some (v,H',σ))(al:H'.length=H.length) :
 ∃ov:Nat→Option (Option AObj),(a02 H'=λb=>(ov b).getD (a02 H b))∧(∀b,(ov b).isSome=true→b∈σ)∧
  ∀{I K:Nat→Prop} {ρ:PMap} {h:FHeap} {w:World} {am:List Value},HRel E.G I K ρ h w→(∀b∈σ,h b=a02 H b)→VRels I w ρ args am→
   XOf E g am w λen w'=>∃c I',en = .returned c∧(∀c,I c→I' c)∧Ext I K w w'∧HRel E.G I' K ρ (λb=>(ov b).getD (h b)) w'∧VRel I' w' ρ v c:=by
 unfold a2f at ai;simp only at ai;generalize hσ:a1t H a35 (a0d args) []=σ' at ai;rw[cond_eq_ite]at ai;split at ai
 case isFalse=>cases ai
 rename_i hc;simp only[e7h,e9r,e9o]at hc;obtain⟨aU,aj⟩:=hc;have aU:=a8l aU;split at ai
 case h_2=>cases ai
 rename_i v1 H1 hr;simp only[Option.some.injEq,Prod.mk.injEq]at ai;obtain⟨rfl,rfl,rfl⟩:=ai;have iM:run (args.map (ren (a8o σ'))) (a5m (a02 H) σ')=some (v1,H1):=hr;have ph:H1.length≤σ'.length:=by simp only[e8i,a15,c10,List.length_drop]at al;omega
 refine⟨λb=>(σ'.idxOf? b).map λj=>(a02 H1 j).map (a0e (a18 σ' H.length)),?_,?_,?_⟩
 ·funext b
  simp only[a02];rcases f1d b H.length with hb|hb
  ·rw[e8f (by rw[a15];exact hb),a6y];simp only[e9y];rw[z9e hb];cases hx:σ'.idxOf? b<;>simp[a02]
  ·rw[e8m (by simp only[e8i,a15,c10,List.length_drop];omega),e8m hb];cases hx:σ'.idxOf? b with
   |none=>rfl
   |some j=>have:=aj b (c11 (a29 hx));omega
 ·intro b hb;dsimp only at hb;cases hx:σ'.idxOf? b with
  |none=>rw[hx]at hb;simp at hb
  |some j=>exact c11 (a29 hx)
 ·intro I K ρ h w am rel hh ha;have eo:run (args.map (ren (a8o σ'))) (a5m h σ')=some (v1,H1):=by rw[b15 hh];exact iM
  refine XOf.mono (b81 ae eo rel aU ha) ?_
  rintro en w' ⟨c,I1,ρ1,rfl,aC,hv⟩
  have bW:∀j b m,a18 σ' H.length j=some b→ρ1 j=some m→ρ b=some m:=by
   intro j b m hj hm;rcases f1d j σ'.length with bg|bg
   ·simp only[a18]at hj;rw[cond_eq_ite,e8j (by simpa[e9o]using bg)]at hj;have:=aC.map j bg;rw[hm,hj]at this;exact this.symm
   ·rw[aC.nrel j (by omega)]at hm;cases hm
  refine⟨c,I1,rfl,aC.imm,aC.ext.keepLess (λc hc=>.inl hc),?_,VRel.ren bW v1 hv⟩;refine b83 rel aU aC (λ_ _ h=>h) bW (λb m hb=>.inl hb) ?_;intro b o hb;dsimp only at hb;cases hx:σ'.idxOf? b with
  |none=>rw[hx]at hb;exact .inl ⟨b0n hx,hb⟩
  |some j=>rw[hx]at hb;simp only[e8d,e9x]at hb;obtain⟨o1,eg,rfl⟩:=a07 hb;have hσj:=a29 hx;refine .inr ⟨j,o1,?_,eg,rfl⟩;simp only[a18];rw[cond_eq_ite,e8j (by simpa[e9o]using(e7k.1 hσj).1)];exact hσj
theorem d4x{g:FuncId}{run:List AV→a03→Option (AV×a03)}(ae:b08 E g run){args:List AV}{H H':a03}{v:AV}{σ:List Nat}
 (ai:a2f run args H=some (v,H',σ)){q:Nat}(al:H'.length=H.length+q) :
 ∃ov:Nat→Option (Option AObj),(a02 H'=λb=>(ov b).getD (a02 H b))∧(∀b,(ov b).isSome=true→b∈σ++List.range' H.length q)∧
  ∀{I K:Nat→Prop} {ρ:PMap} {h:FHeap} {w:World} {am:List Value},HRel E.G I K ρ h w→(∀b,H.length≤b→b<H.length+q→ρ b=none)→(∀b∈σ,h b=a02 H b)→VRels I w ρ args am→
   XOf E g am w λen w'=>∃c I' ρ',en = .returned c∧(∀c,I c→I' c)∧Ext I K w w'∧(∀b,¬(H.length≤b∧b<H.length+q)→ρ' b=ρ b)∧HRel E.G I' K ρ' (λb=>(ov b).getD (h b)) w'∧VRel I' w' ρ' v c:=by
 unfold a2f at ai;simp only at ai;generalize hσ:a1t H a35 (a0d args) []=σ' at ai;rw[cond_eq_ite]at ai;split at ai
 case isFalse=>cases ai
 rename_i hc;simp only[e7h,e9r,e9o]at hc;obtain⟨aU,aj⟩:=hc;have aU:=a8l aU;split at ai
 case h_2=>cases ai
 rename_i v1 H1 hr;simp only[Option.some.injEq,Prod.mk.injEq]at ai;obtain⟨rfl,rfl,rfl⟩:=ai;have iM:run (args.map (ren (a8o σ'))) (a5m (a02 H) σ')=some (v1,H1):=hr;have ph:H1.length-σ'.length=q:=by simp only[e8i,a15,c10,List.length_drop]at al;omega
 refine⟨λb=>if H.length≤b∧b<H.length+q then some ((a02 H1 (σ'.length+(b-H.length))).map (a0e (a18 σ' H.length)))else(σ'.idxOf? b).map λj=>(a02 H1 j).map (a0e (a18 σ' H.length)),?_,?_,?_⟩
 ·funext b
  simp only[a02];rcases f1d b H.length with hb|hb
  ·rw[e8f (by rw[a15];exact hb),a6y,e8g (by omega)];simp only[e9y];rw[z9e hb];cases hx:σ'.idxOf? b<;>simp[a02]
  ·rw[e8h (by rw[a15];exact hb),a15,e8a,f1p];by_cases he:b<H.length+q
   ·rw[e8j ⟨hb,he⟩];cases hx:H1[σ'.length+(b-H.length)]? with
    |none=>simp[hx]
    |some ob=>simp[hx]
   ·rw[e8g (by omega),e8m (by omega),e8m hb];cases hx:σ'.idxOf? b with
    |none=>rfl
    |some j=>have:=aj b (c11 (a29 hx));omega
 ·intro b hb;dsimp only at hb;by_cases he:H.length≤b∧b<H.length+q
  ·exact List.mem_append_right _ (by rw[List.mem_range'_1];exact he)
  ·rw[e8g he]at hb;cases hx:σ'.idxOf? b with
   |none=>rw[hx]at hb;simp at hb
   |some j=>exact List.mem_append_left _ (c11 (a29 hx))
 ·intro I K ρ h w am rel hn hh ha;have eo:run (args.map (ren (a8o σ'))) (a5m h σ')=some (v1,H1):=by rw[b15 hh];exact iM
  refine XOf.mono (b81 ae eo rel aU ha) ?_
  rintro en w' ⟨c,I1,ρ1,rfl,aC,hv⟩
  have cL:=aC.low;have bW:∀j b m,a18 σ' H.length j=some b→ρ1 j=some m→(if H.length≤b∧b<H.length+q then ρ1 (σ'.length+(b-H.length))else ρ b)=some m:=by
   intro j b m hj hm;simp only[a18]at hj;rw[cond_eq_ite]at hj;split at hj
   ·rename_i bg;have bg:j<σ'.length:=by simpa[e9o]using bg
    have hb:=aj b (c11 hj);rw[e8g (by omega)];have:=aC.map j bg;rw[hm,hj]at this;exact this.symm
   ·rename_i bg;have bg:σ'.length≤j:=by simpa[e9o]using bg
    cases hj;by_cases he:j-σ'.length<q
    ·rw[e8j (by omega),show σ'.length+(H.length+(j-σ'.length)-H.length)=j by omega];exact hm
    ·rw[aC.nrel j (by omega)]at hm;cases hm
  have aN:∀b m,ρ b=some m→(if H.length≤b∧b<H.length+q then ρ1 (σ'.length+(b-H.length))else ρ b)=some m:=by intro b m hb;rw[e8g (λe=>by rw[hn b e.1 e.2]at hb;cases hb)];exact hb
  refine⟨c,I1,λb=>if H.length≤b∧b<H.length+q then ρ1 (σ'.length+(b-H.length))else ρ b,rfl,aC.imm,aC.ext.keepLess (λc hc=>.inl hc),λb hb=>e8g hb,?_,VRel.ren bW v1 hv⟩;refine b83 rel aU aC aN bW ?_ ?_
  ·intro b m hb;split at hb
   ·exact .inr ⟨_,hb⟩
   ·exact .inl hb
  intro b o hb;dsimp only at hb;by_cases he:H.length≤b∧b<H.length+q
  ·rw[e8j he,e9x]at hb;obtain⟨o1,eg,rfl⟩:=a07 hb;refine .inr ⟨σ'.length+(b-H.length),o1,?_,eg,rfl⟩;simp only[a18];rw[cond_eq_ite,e8g (by simp[e9o])]
   congr 1;omega
  rw[e8g he]at hb;cases hx:σ'.idxOf? b with
  |none=>rw[hx]at hb;exact .inl ⟨b0n hx,hb⟩
  |some j=>rw[hx]at hb;simp only[e8d,e9x]at hb;obtain⟨o1,eg,rfl⟩:=a07 hb;have hσj:=a29 hx;refine .inr ⟨j,o1,?_,eg,rfl⟩;simp only[a18];rw[cond_eq_ite,e8j (by simpa[e9o]using(e7k.1 hσj).1)];exact hσj
theorem c7f(ok:EnvOk E){ro:Option Nat}{call:FuncId→List AV→a03→Option (AV×a03)}(ai:a3v E call){F:Frm}{H H':a03}{o:Oper}{v:AV}{l:LogE}(cL:e.m≤m0)(cA:m0≤H.length)
 (hs:a0r E true call F H o.op=some (v,H',l))(hd:a6n N o.dst=true) :
 ∃ov fresh,(a02 H'=λb=>(ov b).getD (a02 H b))∧H'.length=H.length+fresh∧(∀b,(ov b).isSome=true→b∈l.keys)∧b8f E ro e N m0 H.length o (a33 F) (a02 H) v ov fresh l:=by
 unfold a0r at hs;split at hs
 ·rename_i f args oE dS;split at hs
  case h_2=>cases hs
  rename_i v' H1 σ aV;cases hs
  -- what is called,in whatever state
  have tail:∀(g:FuncId) (as:List AV),a2f (call g) as H=some (v,H',σ)→(H.length≤H'.length)→(a6f E (opv E F f) H H' σ=true→∀b∈σ,a02 H b=a02 H' b)→
   (∀{C:Nat→Prop} {f':Nat→AV} {h:FHeap} {I:Nat→Prop} {ρ:PMap} {a:Act} {w:World},DNow E e N m0 C f' h I ρ a w→(∀s∈b14 o.op.operands.toList,f' s=a33 F s)→
    ∃am,VRels I w ρ as am∧∀{R:Ending→World→Prop},XOf E g am w R→∀{K:Act→World→Prop} {Q:Exit→Act→World→Prop},(∀en w',R en w'→∃c,en = .returned c∧K (a.put o.dst c) w')→o.wpIn (wf ro) 0 E.P a w K Q)→
   ∃ov fresh,(a02 H'=λb=>(ov b).getD (a02 H b))∧H'.length=H.length+fresh∧(∀b,(ov b).isSome=true→b∈b4r (a6f E (opv E F f) H H' σ) σ H.length H'.length)∧
    b8f E ro e N m0 H.length o (a33 F) (a02 H) v ov fresh ⟨σ,b4r (a6f E (opv E F f) H H' σ) σ H.length H'.length⟩:=by
   intro g as d7 al pK T;by_cases aS:H'.length≠H.length
   ·have hq:H'.length=H.length+(H'.length-H.length):=by omega
    generalize H'.length-H.length=q at hq;have hk:b4r (a6f E (opv E F f) H H' σ) σ H.length H'.length=σ++List.range' H.length q:=by unfold b4r;rw[cond_eq_ite,e8g (by rw[f4h];omega),show H'.length-H.length=q by omega]
    obtain⟨ov,h1,h2,h3⟩:=d4x (ai g) d7 hq;refine⟨ov,q,h1,hq,by rw[hk];exact h2,?_⟩;intro C f' h I ρ a w ak hf hh hC K Q hK;obtain⟨am,aD,tr⟩:=T ak hf;have dG:∀b,H.length≤b→b<H.length+q→ρ b=none:=λb h1 h2=>ak.nrel b (by omega) (hC b h1 h2);refine tr (h3 ak.rel dG hh aD) ?_
    rintro en w' ⟨c,I',ρ',rfl,hI,cg,hρ',bw,cV⟩
    refine⟨c,rfl,?_⟩;obtain⟨M,hM⟩:=ak.fin;have aN:∀b m,ρ b=some m→ρ' b=some m:=by intro b m hb;rw[hρ' b (λe=>by rw[dG b e.1 e.2]at hb;cases hb)];exact hb
    refine hK I' ρ' _ _ ⟨λc hc=>hI c (ak.imm c hc),λb hb=>?_,ak.ext.trans ak.imm cg,bw,λb hb hc=>?_,⟨max M (H.length+q),λb hb=>?_⟩,by rw[a8i];exact ak.size,?_,by rw[a2x];exact ak.marks.mono hI (λc hc=>cg.keep c (.inl hc))⟩
    ·rw[hρ' b (by omega)];exact ak.map b hb
    ·rw[hρ' b (λe=>hc (.inr e))];exact ak.nrel b hb (λh=>hc (.inl h))
    ·rw[hρ' b (by omega)];exact hM b (by omega)
    ·exact b0i (λv c hv=>VRel.mono hI (λc hc=>cg.keep c (.inl hc)) v aN hv) ak.size ak.frm hd cV
   have al:H'.length=H.length:=Classical.not_not.1 aS;have hk:b4r (a6f E (opv E F f) H H' σ) σ H.length H'.length=(bif a6f E (opv E F f) H H' σ then[]else σ):=by unfold b4r;rw[al,cond_eq_ite,e8j (by rw[f4h])]
   rw[hk];obtain⟨ov,h1,h2,h3⟩:=d0w (ai g) d7 al;obtain⟨ov,h1,h2,h3⟩:∃ov:Nat→Option (Option AObj),(a02 H'=λb=>(ov b).getD (a02 H b))∧(∀b,(ov b).isSome=true→b∈(bif a6f E (opv E F f) H H' σ then[]else σ))∧
    ∀{I K:Nat→Prop} {ρ:PMap} {h:FHeap} {w:World} {am:List Value},HRel E.G I K ρ h w→(∀b∈σ,h b=a02 H b)→VRels I w ρ as am→
     XOf E g am w λen w'=>∃c I',en = .returned c∧(∀c,I c→I' c)∧Ext I K w w'∧HRel E.G I' K ρ (λb=>(ov b).getD (h b)) w'∧VRel I' w' ρ v c:=by
    cases ln:a6f E (opv E F f) H H' σ with
    |false=>exact⟨ov,h1,h2,h3⟩
    |true=>
     have bS:∀b∈σ,a02 H b=a02 H' b:=pK ln;have cK:∀b x,ov b=some x→x=a02 H b:=by intro b x hx;have e1:=bS b (h2 b (by rw[hx];rfl));rw[h1]at e1;simp only[hx,e9x]at e1;exact e1.symm
     refine⟨λ_=>none,?_,λb hb=>by simp at hb,?_⟩
     ·rw[h1];funext b
      cases hx:ov b with
      |none=>rfl
      |some x=>simp only[e9x,Option.getD_none];exact cK b x hx
     ·intro I K ρ h w am bw hh ha;have e:(λb=>(ov b).getD (h b))=h:=by
       funext b
       cases hx:ov b with
       |none=>rfl
       |some x=>simp only[e9x];rw[cK b x hx,hh b (h2 b (by rw[hx];rfl))]
      refine XOf.mono (h3 bw hh ha) ?_
      rintro en w' ⟨c,I',r1,r2,r3,r4,r5⟩
      rw[e]at r4;exact⟨c,I',r1,r2,r3,by simpa using r4,r5⟩
   refine⟨ov,0,h1,al,h2,?_⟩;intro C f' h I ρ a w ak hf hh hC K Q hK;obtain⟨am,aD,tr⟩:=T ak hf;refine tr (h3 ak.rel hh aD) ?_
   rintro en w' ⟨c,I',rfl,hI,cg,bw,cV⟩
   refine⟨c,rfl,?_⟩;refine hK I' ρ _ _ ⟨λc hc=>hI c (ak.imm c hc),ak.map,ak.ext.trans ak.imm cg,bw,λb hb hc=>ak.nrel b hb (λh=>hc (.inl h)),ak.fin,by rw[a8i];exact ak.size,?_,by rw[a2x];exact ak.marks.mono hI (λc hc=>cg.keep c (.inl hc))⟩;exact b0i (λv c hv=>VRel.mono hI (λc hc=>cg.keep c (.inl hc)) v (λ_ _ h=>h) hv) ak.size ak.frm hd cV
  have mU:¬((true && !(Nat.ble H.length H'.length))=true)→H.length≤H'.length:=by intro h;simpa only[f1q,f0x,Bool.not_eq_false,f1h]using h
  unfold a0a at aV;split at aV
  case h_3=>cases aV
  case h_2=>
   rename_i b iZ;split at aV
   case h_2=>cases aV
   rename_i mJ H2 σ2 d7;rw[cond_eq_ite]at aV;split at aV
   case isTrue=>cases aV
   rename_i al;cases aV;refine tail yId _ d7 (mU al) (λh=>by rw[iZ]at h;simp[a6f]at h) ?_;intro C f' h I ρ a w ak hf;have dQ:=b2y (E:=E) hf;rw[dS]at dQ;have jX:=ak.opvf f;rw[←dQ f (by simp[Op.operands,Call.operands]),iZ]at jX;simp only[VRel]at jX;obtain⟨m,hm,gA⟩:=jX;have aD:args.toList.map (opv E F)=args.toList.map (opvf E f'):=f0i λx hx=>dQ x (by simp[Op.operands,Call.operands];exact .inr (by simpa using hx));refine⟨.func (.yield m.blk) #[] #[]::(args.map a.eval).toList,?_,?_⟩
   ·simp only[VRels];refine⟨_,_,rfl,by simp only[VRel];exact⟨m,hm,rfl⟩,?_⟩;rw[f2e,aD];exact a4y ak.opvf args.toList
   ·intro R hc K Q hK;rw[e0e]at hc;obtain⟨l,vs,fn,tmps,asg,body,he,hy,hr⟩:=hc;simp only[List.cons.injEq,Value.func.injEq,Fn.yield.injEq,and_true]at he;obtain⟨hl,rfl⟩:=he;have bn:(args.map a.eval).toList.toArray=args.map a.eval:=by apply f3t;simp
    rw[bn]at hy;refine a7l (by rw[dS];intro c hc;cases hc) ?_;rw[b6b dS gA,hl,hy];refine b54 (hr.mono ?_);intro en w' hR;obtain⟨c,rfl,hk⟩:=hK en w' hR;exact hk
  rename_i g fs cs iZ
  -- the operands in another state
  have jo:∀{C:Nat→Prop} {f':Nat→AV} {h:FHeap} {I:Nat→Prop} {ρ:PMap} {a:Act} {w:World},DNow E e N m0 C f' h I ρ a w→(∀s∈b14 o.op.operands.toList,f' s=a33 F s)→
   ∃cB aI,a.eval f = .func (.func g) cB aI∧VRels I w ρ (fs++args.toList.map (opv E F)++cs) (cB++args.map a.eval++aI).toList:=by
   intro C f' h I ρ a w ak hf;have dQ:=b2y (E:=E) hf;rw[dS]at dQ;have jX:=ak.opvf f;rw[←dQ f (by simp[Op.operands,Call.operands]),iZ]at jX;simp only[VRel]at jX;obtain⟨cB,aI,gA,jU,cR⟩:=jX;have aD:args.toList.map (opv E F)=args.toList.map (opvf E f'):=f0i λx hx=>dQ x (by simp[Op.operands,Call.operands];exact .inr (by simpa using hx));refine⟨cB,aI,gA,?_⟩;simp only[Array.toList_append,f2e];rw[aD];exact VRels.append (VRels.append jU (a4y ak.opvf args.toList)) cR
  rw[cond_eq_ite]at aV;split at aV
  ·rename_i cg;rw[cond_eq_ite]at aV;split at aV
   ·rename_i hg;obtain⟨hH,hσ,au,v0,H1,e1,e2,e3,e4⟩:=b3d aV;subst hH;refine⟨λ_=>none,0,rfl,rfl,by simp,?_⟩;intro C f' h I ρ a w ak hf hh hC K Q hK;obtain⟨cB,aI,gA,aD⟩:=jo ak hf;have bc:∀b o,a02 H' b=some o→h b=some o:=by
     intro b o hb;have aj:b<H'.length:=by
      rcases f1d b H'.length with h'|h'
      ·exact h'
      ·simp[a02,e8m h']at hb
     rw[hh b (by rw[hσ];exact f2g.2 aj)];exact hb
    have hc:=b9g (ai g) bc ak.rel aD e1 e2 e3 e4;obtain⟨i,hi⟩:=e7n.1 hg;rw[b4k (c5v ok hi)]at hc;have bn:(cB++args.map a.eval++aI).toList.toArray=cB++args.map a.eval++aI:=by apply f3t;simp
    rw[bn]at hc;refine a7l (by rw[dS];intro c hc;cases hc) ?_;rw[a9v dS gA,a3p ok hg];refine a8b (Calls.mono hc ?_)
    rintro en w' ⟨c,I',rfl,hI,i6,bw,cV⟩
    refine hK I' ρ _ _ ⟨λc hc=>hI c (ak.imm c hc),ak.map,ak.ext.trans ak.imm i6,bw,λb hb hc=>ak.nrel b hb (λh=>hc (.inl h)),ak.fin,by rw[a8i];exact ak.size,?_,by rw[a2x];exact ak.marks.mono hI (λc hc=>i6.keep c (.inl hc))⟩;exact b0i (λv c hv=>VRel.mono hI (λc hc=>i6.keep c (.inl hc)) v (λ_ _ h=>h) hv) ak.size ak.frm hd cV
   rename_i bC;split at aV
   case h_2=>cases aV
   rename_i mJ lc;cases aV;refine⟨λ_=>none,0,rfl,rfl,by simp,?_⟩;intro C f' h I ρ a w ak hf hh hC K Q hK;obtain⟨cB,aI,gA,aD⟩:=jo ak hf;obtain⟨c,ae,cV⟩:=b1j (E:=E) (w:=w) ok cg (by simpa using bC) lc aD;have bn:(cB++args.map a.eval++aI).toList.toArray=cB++args.map a.eval++aI:=by apply f3t;simp
   rw[bn]at ae;refine a7l (by rw[dS];intro c hc;cases hc) ?_;rw[a9v dS gA,ae,Oper.uponIn_value];refine hK I ρ _ _ ⟨ak.imm,ak.map,ak.ext,ak.rel,λb hb hc=>ak.nrel b hb (λh=>hc (.inl h)),ak.fin,by rw[a8i];exact ak.size,?_,by rw[a2x];exact ak.marks⟩;exact b0i (λ_ _ h=>h) ak.size ak.frm hd cV
  ·rw[cond_eq_ite]at aV;split at aV
   case isFalse=>cases aV
   rename_i hg;split at aV
   case h_2=>cases aV
   rename_i mJ H2 σ2 d7;rw[cond_eq_ite]at aV;split at aV
   case isTrue=>cases aV
   rename_i al;cases aV;refine tail g _ d7 (mU al) ?_ ?_
   ·intro ln;rw[iZ]at ln;simp only[a6f,e7h,e9r]at ln;exact λb hb=>c30 _ _ (ln.2 b hb)
   intro C f' h I ρ a w ak hf;obtain⟨cB,aI,gA,aD⟩:=jo ak hf;refine⟨_,aD,?_⟩;intro R hc K Q hK;obtain⟨i,hi⟩:=e7n.1 hg;rw[b4k (c5v ok hi)]at hc;have bn:(cB++args.map a.eval++aI).toList.toArray=cB++args.map a.eval++aI:=by apply f3t;simp
   rw[bn]at hc;refine a7l (by rw[dS];intro c hc;cases hc) ?_;rw[a9v dS gA,a3p ok hg];refine a8b (Calls.mono hc ?_);intro en w' hR;obtain⟨c,rfl,hk⟩:=hK en w' hR;exact hk
 ·split at hs
  case h_2=>cases hs
  rename_i v' eff ha;rw[cond_eq_ite]at hs;split at hs
  case isFalse=>cases hs
  rename_i bN;cases hs;refine⟨c6p H.length eff,eff.nf,d9f bN,?_,λb hb=>c8a hb,d56 ok cL cA hd ha⟩;rw[a9c];unfold Eff.nf;split<;>rfl
end
end Go.Ax
/- AxDraw3: the whole of a region that draws its order. -/
namespace Go.Ax
section
variable {E:Env}{e:Entry}{N m0:Nat}{an:Array Oper}{Q:Exit→Act→World→Prop}{f0:Nat→AV}{h0:FHeap}
structure RecOk(E:Env)(ro:Option Nat)(e:Entry)(N m0:Nat)(an:Array Oper)(Q:Exit→Act→World→Prop)(f0:Nat→AV)(h0:FHeap)(p:List Rec)(i:Nat)(r:Rec):Prop where
 dst:∀o,an[i]?=some o→r.dst=o.dst
 keys:∀b,(r.ov b).isSome=true→b∈r.log.keys
 good:∀{C:Nat→Prop} {f:Nat→AV} {h:FHeap} {I:Nat→Prop} {ρ:PMap} {a:Act} {w:World},DNow E e N m0 C f h I ρ a w→(∀o,an[i]?=some o→∀s∈looks an.toList o,f s=gL fov f0 a41 p s)→
  (∀b∈r.log.needs,h b=gL hov h0 a41 p b)→(∀b,cnt m0 p≤b→b<cnt m0 p+r.fresh→¬C b)→
  ∀{K:Act→World→Prop},(∀I' ρ' a' w',DNow E e N m0 (λb=>C b∨(cnt m0 p≤b∧b<cnt m0 p+r.fresh)) (λs=>(fov r s).getD (f s)) (λb=>(hov r b).getD (h b)) I' ρ' a' w'→K a' w')→wpOpIn (wf ro) 0 E.P an Q i K a w
def RecsOk(E:Env)(ro:Option Nat)(e:Entry)(N m0:Nat)(an:Array Oper)(Q:Exit→Act→World→Prop)(f0:Nat→AV)(h0:FHeap)(aF:List Rec):Prop:=∀i r,nth aF i=some r→RecOk E ro e N m0 an Q f0 h0 (pre aF i) i r
theorem RecsOk.cons{ro:Option Nat}{aF:List Rec}{r:Rec}(h:RecsOk E ro e N m0 an Q f0 h0 aF)(hr:RecOk E ro e N m0 an Q f0 h0 aF aF.length r):RecsOk E ro e N m0 an Q f0 h0 (r::aF):=by
 intro i r' hi;unfold nth at hi;simp only[pre];split at hi
 ·rename_i he;cases hi;rw[e8j he,he];exact hr
 ·rename_i he;rw[e8g he];exact h i r' hi
theorem c42:∀{l:List Rec},m0≤cnt m0 l
 | []=>e9k _
 |r::ah=>by have:=c42 (l:=ah);simp only[cnt];omega
theorem c2o{I:Nat→Prop}{w:World}{ρ:PMap}{a:Act}{v:AV}{j d:Nat}(hg:a2u an.toList j=some d)(hv:VRel I w ρ v (a.tmps.getD d undef)) :
 (∀b,v = .bool b→yielded an a.tmps j=some b)∧(v = .tuple []→yielded an a.tmps j=none):=by
 have hd:(an[j]?).bind (·.dst)=some d:=by simpa[a2u]using hg
 have aO:∀c,a.tmps.getD d undef=c→c≠undef→a.tmps[d]?=some c:=by
  intro c hc aw;rw[e9u]at hc;cases hx:a.tmps[d]? with
  |none=>rw[hx]at hc;exact absurd hc.symm aw
  |some x=>rw[hx]at hc;simpa using hc
 refine⟨λb hb=>?_,λhb=>?_⟩
 ·rw[hb]at hv;simp only[VRel]at hv;have:=aO _ hv (by simp[undef]);simp[yielded,hd,this]
 ·rw[hb]at hv;simp only[VRel]at hv;obtain⟨cs,hc,cR⟩:=hv;unfold yielded;rw[hd];simp only[f1l];rw[e9u]at hc;cases hx:a.tmps[d]? with
  |none=>rfl
  |some x=>rw[hx]at hc;simp only[e9x]at hc;rw[hc]
theorem c8v{o:Oper}{s:Nat}(h:s∈b14 o.op.operands.toList):s∈looks an.toList o:=List.mem_append_left _ h
theorem c1p{o:Oper}{j d:Nat}{bi:Bool}(hg:o.guard=some (j,bi))(hs:a2u an.toList j=some d):d∈looks an.toList o:=by simp[looks,hg,hs]
theorem a94(ok:EnvOk E){ro:Option Nat}{call:FuncId→List AV→a03→Option (AV×a03)}(ai:a3v E call)(cL:e.m≤m0){R:Type}{k:Frm→a03→Option R}{r:R} :
 ∀(ah:List Oper) (aF:List Rec) (F:Frm) (H:a03),ah=an.toList.drop aF.length→aF.length+ah.length=an.size→a33 F=gL fov f0 a41 aF→a02 H=gL hov h0 a41 aF→H.length=cnt m0 aF→
  RecsOk E ro e N m0 an Q f0 h0 aF→a2g E true N call an.toList ah (aF.map (·.log)) F H k=some r→
  ∃a6 F' H',a6.length=an.size∧a33 F'=gL fov f0 a41 a6∧a02 H'=gL hov h0 a41 a6∧H'.length=cnt m0 a6∧RecsOk E ro e N m0 an Q f0 h0 a6∧
   logOk an.toList (a6.map (·.log)).length (a6.map (·.log))=true∧k F' H'=some r
 | [],aF,F,H,_,al,hF,hH,hn,dD,ae=>by
  simp only[a2g,f2n,Bool.false_or]at ae;rw[cond_eq_ite]at ae;split at ae
  case isFalse=>cases ae
  rename_i iS;exact⟨aF,F,H,by simpa using al,hF,hH,hn,dD,iS,ae⟩
 |o::ah,aF,F,H,cJ,al,hF,hH,hn,dD,ae=>by
  have ho:an[aF.length]?=some o:=by
   have:(an.toList.drop aF.length)[0]?=some o:=by rw[←cJ];rfl
   rw[f1p]at this;simpa using this
  have fe:ah=an.toList.drop (aF.length+1):=by
   have:(an.toList.drop aF.length).drop 1=ah:=by rw[←cJ];rfl
   rw[List.drop_drop]at this;exact this.symm
  unfold a2g at ae;rw[cond_eq_ite]at ae;split at ae
  case isFalse=>cases ae
  rename_i hd;simp only[e7g]at al
  -- a step that is executed,and one that is not
  have exec:∀F0,a33 F0=a33 F→(match a0r E true call F0 H o.op with
   |some (v,H',l)=>a2g E true N call an.toList ah (l::aF.map (·.log)) (a3i F0 o.dst v) H' k
   |none=>none)=some r→
   (∀{I:Nat→Prop} {w:World} {ρ:PMap} {a:Act} {f:Nat→AV},(∀s∈looks an.toList o,f s=gL fov f0 a41 aF s)→(∀s,VRel I w ρ (f s) (a.tmps.getD s undef))→Region.wanted o (yielded an a.tmps)=true)→
   ∃a6 F' H',a6.length=an.size∧a33 F'=gL fov f0 a41 a6∧a02 H'=gL hov h0 a41 a6∧H'.length=cnt m0 a6∧RecsOk E ro e N m0 an Q f0 h0 a6∧
    logOk an.toList (a6.map (·.log)).length (a6.map (·.log))=true∧k F' H'=some r:=by
   intro F0 pi hr hw;split at hr
   case h_2=>cases hr
   rename_i v H' l hs;obtain⟨ov,fresh,h1,h2,h3,h4⟩:=c7f (ro:=ro) (e:=e) (N:=N) (m0:=m0) ok ai cL (by rw[hn];exact c42) hs hd;refine a94 ok ai cL ah (⟨o.dst,v,ov,fresh,l⟩::aF) (a3i F0 o.dst v) H' (by simpa using fe) (by simp only[e7g];omega) ?_ ?_ ?_ (dD.cons ?_) hr
   ·simp only[gL,a41,f1a];rw[←hF,←pi]
    funext s
    cases lN:o.dst with
    |none=>simp[a3i,fov]
    |some d=>rw[a81];simp only[fov,Option.some.injEq];split<;>rfl
   ·simp only[gL,a41,f1a];rw[←hH];exact h1
   ·simp only[cnt];rw[←hn];exact h2
   ·refine⟨λo' d5=>by rw[ho]at d5;cases d5;rfl,h3,?_⟩;intro C f h I ρ a w ak hf hh hC K hK;have hf:=hf o ho;unfold wpOpIn;simp only[ho];rw[e8j (hw hf ak.frm)];refine(h4 ak (λs hs=>by rw[hf s (c8v hs),pi,hF]) (λb hb=>by rw[hh b hb,hH]) (by rw[hn];exact hC) ?_);rw[hn];exact hK
  have skip:∀F0,a33 F0=a33 F→a2g E true N call an.toList ah (⟨[],[]⟩::aF.map (·.log)) (a3i F0 o.dst (.tuple [])) H k=some r→
   (∀{I:Nat→Prop} {w:World} {ρ:PMap} {a:Act} {f:Nat→AV},(∀s∈looks an.toList o,f s=gL fov f0 a41 aF s)→(∀s,VRel I w ρ (f s) (a.tmps.getD s undef))→Region.wanted o (yielded an a.tmps)=false)→
   ∃a6 F' H',a6.length=an.size∧a33 F'=gL fov f0 a41 a6∧a02 H'=gL hov h0 a41 a6∧H'.length=cnt m0 a6∧RecsOk E ro e N m0 an Q f0 h0 a6∧
    logOk an.toList (a6.map (·.log)).length (a6.map (·.log))=true∧k F' H'=some r:=by
   intro F0 pi hr hw;refine a94 ok ai cL ah (⟨o.dst,.tuple [],λ_=>none,0,⟨[],[]⟩⟩::aF) (a3i F0 o.dst (.tuple [])) H (by simpa using fe) (by simp only[e7g];omega) ?_ ?_ ?_ (dD.cons ?_) hr
   ·simp only[gL,a41,f1a];rw[←hF,←pi]
    funext s
    cases lN:o.dst with
    |none=>simp[a3i,fov]
    |some d=>rw[a81];simp only[fov,Option.some.injEq];split<;>rfl
   ·simp only[gL,a41,f1a];rw[←hH];rfl
   ·simp only[cnt];exact hn
   ·refine⟨λo' d5=>by rw[ho]at d5;cases d5;rfl,by simp,?_⟩;intro C f h I ρ a w ak hf hh hC K hK;have hf:=hf o ho;unfold wpOpIn;simp only[ho];rw[e8g (by rw[hw hf ak.frm];simp)];refine⟨λf _=>d6z ro f,?_⟩;refine hK I ρ _ _ ⟨ak.imm,ak.map,ak.ext,ak.rel,λb hb hc=>ak.nrel b hb (λh=>hc (.inl h)),ak.fin,by rw[a8i];exact ak.size,?_,by rw[a2x];exact ak.marks⟩;exact b0i (λ_ _ h=>h) ak.size ak.frm hd (by simp only[VRel,undef];exact⟨#[],rfl,by simp[VRels]⟩)
  split at ae
  ·rename_i hg;exact exec F rfl ae (λ_ _=>by simp[Region.wanted,hg])
  ·rename_i j bi hg;split at ae
   case h_1=>cases ae
   rename_i d nO;have i7:=c1p (o:=o) hg nO;split at ae
   ·rename_i b hb;have hw:∀{I:Nat→Prop} {w:World} {ρ:PMap} {a:Act} {f:Nat→AV},(∀s∈looks an.toList o,f s=gL fov f0 a41 aF s)→(∀s,VRel I w ρ (f s) (a.tmps.getD s undef))→Region.wanted o (yielded an a.tmps)=(b==bi):=by
     intro I w ρ a f hf hv;have nS:f d = .bool b:=by rw[hf d i7,←hF,hb]
     have:=(c2o nO (hv d)).1 b nS;simp[Region.wanted,hg,this]
    have aE:a33 (a3i F (some d) (.bool b))=a33 F:=by
     funext s
     rw[a81];split
     ·rename_i hs;rw[←hs,hb]
     ·rfl
    cases b
    ·simp only[e9q]at ae;cases bi
     ·simp only[e9q]at ae;exact exec _ aE ae (λhf hv=>by rw[hw hf hv];rfl)
     ·simp only[e9i]at ae;exact skip _ aE ae (λhf hv=>by rw[hw hf hv];rfl)
    ·simp only[e9i]at ae;cases bi
     ·simp only[e9q]at ae;exact skip _ aE ae (λhf hv=>by rw[hw hf hv];rfl)
     ·simp only[e9i]at ae;exact exec _ aE ae (λhf hv=>by rw[hw hf hv];rfl)
   ·rename_i hb;refine skip F rfl ae (λ{I w ρ a f} hf hv=>?_);have nS:f d = .tuple []:=by rw[hf d i7,←hF,hb]
    have:=(c2o nO (hv d)).2 nS;simp[Region.wanted,hg,this]
   ·cases ae
theorem a4l{aF:List Rec}:∀{i:Nat} {r:Rec},nth aF i=some r→nth (aF.map (·.log)) i=some r.log:=by
 induction aF with
 |nil=>intro i r h;simp[nth]at h
 |cons a ah ih=>
  intro i r h;unfold nth at h;simp only[e12,nth,c10];split at h
  ·rename_i hi;cases h;rw[e8j hi]
  ·rename_i hi;rw[e8g hi];exact ih h
theorem b35{a b:List Nat}{x:Nat}(h1:x∈a)(h2:x∈b):b36 a b=true:=by simp only[b36,List.any_eq_true,a1u];exact⟨x,h1,h2⟩
theorem DNow.weaken{C C':Nat→Prop}{f:Nat→AV}{h:FHeap}{I:Nat→Prop}{ρ:PMap}{a:Act}{w:World}(d:DNow E e N m0 C f h I ρ a w)(hC:∀b,C b→C' b):DNow E e N m0 C' f h I ρ a w:={ d with nrel:=λb hb hc=>d.nrel b hb (λh=>hc (hC b h)) }
theorem b5t{S:Nat→Bool}{b:Nat}:∀{l:List Rec},c5f m0 S l b→c5f m0 a41 l b
 | [],h=>h
 |_::_,h=>h.imp (λ⟨_,h2⟩=>⟨rfl,h2⟩) b5t
theorem d4d{ro:Option Nat}(aB:c3z an.toList=true){aF:List Rec}(al:aF.length=an.size)(dD:RecsOk E ro e N m0 an Q f0 h0 aF)(iS:logOk an.toList (aF.map (·.log)).length (aF.map (·.log))=true)
 (hQ:∀I ρ a w,DNow E e N m0 (c5f m0 a41 aF) (gL fov f0 a41 aF) (gL hov h0 a41 aF) I ρ a w→Q .normal a w) :
 ∀(aZ:Nat) (aA:Array Bool) (I:Nat→Prop) (ρ:PMap) (a:Act) (w:World),aA.size=an.size→((List.range an.size).filter λi=>!aA.getD i false).length≤aZ→
  (∀j,aA.getD j false=true→a7d an.toList (λi=>aA.getD i false) j)→
  DNow E e N m0 (c5f m0 (λi=>aA.getD i false) aF) (gL fov f0 (λi=>aA.getD i false) aF) (gL hov h0 (λi=>aA.getD i false) aF) I ρ a w→
  wpAnyIn (wf ro) 0 E.P .any an Q aZ aA a w:=by
 have done:∀(aA:Array Bool) (I:Nat→Prop) (ρ:PMap) (a:Act) (w:World),(∀i,i<an.size→aA.getD i false=true)→
  DNow E e N m0 (c5f m0 (λi=>aA.getD i false) aF) (gL fov f0 (λi=>aA.getD i false) aF) (gL hov h0 (λi=>aA.getD i false) aF) I ρ a w→Q .normal a w:=by
  intro aA I ρ a w aY ak;have bS:∀j,j<aF.length→(λi=>aA.getD i false) j=a41 j:=λj hj=>by rw[al]at hj;exact aY j hj
  rw[b7n bS,b7n bS]at ak;exact hQ I ρ a w (ak.weaken λb=>b5t)
 intro aZ
 induction aZ with
 |zero=>
  intro aA I ρ a w bF lR cF ak;have aY:∀i,i<an.size→aA.getD i false=true:=by
   intro i hi;cases hx:aA.getD i false with
   |true=>rfl
   |false=>
    have:i∈(List.range an.size).filter λi=>!aA.getD i false:=by rw[f3a,f2g];exact⟨hi,by rw[hx];rfl⟩
    have:=List.length_pos_of_mem this;omega
  have gu:Region.ready .any an aA=[]:=by
   cases hr:Region.ready .any an aA with
   |nil=>rfl
   |cons i ah=>
    have:i∈Region.ready .any an aA:=by rw[hr];simp
    obtain⟨h1,o,h2,_⟩:=mem_ready.1 this;have hi:=(f0n.1 h2).1;have:=aY i hi;simp only[e9u,Array.getElem?_eq_getElem (show i<aA.size by omega),e9x]at h1 this;rw[this]at h1;cases h1
  exact⟨gu,done aA I ρ a w aY ak⟩
 |succ aZ ih=>
  intro aA I ρ a w bF lR cF ak;refine⟨λgu=>done aA I ρ a w ?_ ak,λi hi=>?_⟩
  ·intro i
   induction i using Nat.strongRecOn with
   |_ i ihi=>
    intro hi;cases hx:aA.getD i false with
    |true=>rfl
    |false=>
     exfalso;have dm:i∈Region.ready .any an aA:=by
      refine mem_ready.2 ⟨?_,an[i],by simp[hi],λe he hb=>?_⟩
      ·simpa only[e9u,Array.getElem?_eq_getElem (show i<aA.size by omega),e9x]using hx
      ·have:=(a9y aB (j:=i) (y:=an[i]) (by simp[hi])).1 e (by simpa using he) hb;exact ihi e.on this (by omega)
     rw[gu]at dm;cases dm
  ·obtain⟨h1,o,ho,lM⟩:=mem_ready.1 hi;have im:=(f0n.1 ho).1;have dF:an.toList[i]?=some o:=by simpa using ho
   generalize hS:(λi=>aA.getD i false)=S at cF ak;have j7:S i=false:=by rw[←hS];simp only[e9u,Array.getElem?_eq_getElem (show i<aA.size by omega),e9x]at h1⊢;exact h1
   have j0:∀j,S j=true→a7d an.toList S j:=by intro j hj;rw[←hS]at hj;exact cF j hj
   have nZ:a7d an.toList S i:=by intro o' d5 e he hb;rw[dF]at d5;cases d5;rw[←hS];exact lM e (by simpa using he) hb
   obtain⟨r,hr⟩:=c3a (l:=aF) (i:=i) (by omega);have ls:=dD i r hr;have mO:∀j r',nth aF j=some r'→∃o',an.toList[j]?=some o'∧r'.dst=o'.dst:=by
    intro j r' hj;have bg:=b2z hj;have:an[j]?=some an[j]:=by simp
    exact⟨an[j],by simp,(dD j r' hj).dst _ this⟩
   have bq:∀j,a47 an.toList j i=true→S j=true:=λj h=>b5r j0 nZ h;have after:∀j,a47 an.toList i j=true→S j=false:=by
    intro j h;cases hx:S j with
    |false=>rfl
    |true=>rw[b5r j0 (j0 j hx) h]at j7;cases j7
   refine ls.good ak ?_ ?_ ?_ ?_
   ·intro o' d5 s hs;rw[ho]at d5;cases d5;refine d8y hr λj r' hj hd=>?_;obtain⟨oj,rK,tG⟩:=mO j r' hj;have nU:oj.dst=some s:=by
     rw[←tG];unfold fov at hd;split at hd
     ·assumption
     ·simp at hd
    refine⟨λgT=>bq j ?_,λa8=>?_⟩
    ·refine(a9y aB dF).2 j oj rK gT ?_;simp only[a5n,nU,f2v,List.contains_iff_mem];exact .inl (.inl hs)
    ·rcases Nat.lt_or_eq_of_le a8 with aj|rfl
     ·refine after j ((a9y aB rK).2 i o dF aj ?_);simp only[a5n,nU,f2v,List.contains_iff_mem];exact .inl (.inr hs)
     ·exact j7
   ·intro b hb;refine d8y hr λj r' hj hd=>?_;have cf:=(dD j r' hj).keys b hd;refine⟨λgT=>bq j ?_,λa8=>?_⟩
    ·refine b1z iS j i _ _ gT (a4l hj) (a4l hr) ?_;simp only[LogE.clash,b35 cf hb,Bool.true_or]
    ·rcases Nat.lt_or_eq_of_le a8 with aj|rfl
     ·refine after j (b1z iS i j _ _ aj (a4l hr) (a4l hj) ?_);simp only[LogE.clash,b35 hb cf,Bool.or_true]
     ·exact j7
   ·intro b cG eb hm;rw[c8s hr cG eb hm]at j7;cases j7
   ·intro I' ρ' a' w' ny;have pc:(λj=>(aA.setIfInBounds i true).getD j false)=b94 S i:=by
     funext j
     rw[←hS];simp only[b94,e9u,f0m];by_cases a8:i=j
     ·subst a8;simp[show i<aA.size by omega]
     ·rw[e8g a8,f0q.2 (f2x a8),Bool.false_or]
    refine ih _ I' ρ' a' w' (by simpa using bF) ?_ ?_ ?_
    ·have qm:((List.range an.size).filter λj=>!(aA.setIfInBounds i true).getD j false)=((List.range an.size).filter λj=>!aA.getD j false).filter λj=>!(j==i):=by
      rw[List.filter_filter];refine List.filter_congr λj _=>?_;have h1:=congrFun pc j;have h2:=congrFun hS j;rw[h1,h2];simp[b94]
     rw[qm];have:(((List.range an.size).filter λj=>!aA.getD j false).filter λj=>!(j==i)).length<((List.range an.size).filter λj=>!aA.getD j false).length:=by refine List.length_filter_lt_length_iff_exists.2 ⟨i,?_,by simp⟩;rw[f3a,f2g];refine⟨im,?_⟩;have h2:=congrFun hS i;rw[h2,j7];rfl
     omega
    ·rw[pc];have kB:∀j,a7d an.toList S j→a7d an.toList (b94 S i) j:=λj h o ho e he hb=>by simp[b94,h o ho e he hb]
     intro j hj;have hj:b94 S i j=true:=by rw[←pc];exact hj
     simp only[b94,f2v,f2p]at hj;rcases hj with rfl|hj
     ·exact kB _ nZ
     ·exact kB _ (j0 j hj)
    ·rw[pc];rw[d00 hr j7 ?_,d00 hr j7 ?_]
     ·exact ny.weaken λb hb=>b9a hr hb
     ·intro k r' hk jx qM s hs;cases hx:hov r' s with
      |none=>rfl
      |some ob=>have h1:=ls.keys s hs;have h2:=(dD k r' hk).keys s (by unfold hov at hx;rw[hx];rfl);have:=after k (b1z iS i k _ _ jx (a4l hr) (a4l hk) (by simp only[LogE.clash,b35 h1 h2,Bool.or_true,Bool.true_or]));rw[qM]at this;cases this
     ·intro k r' hk jx qM s hs;cases hx:fov r' s with
      |none=>rfl
      |some v=>
       obtain⟨ok,tj,tF⟩:=mO k r' hk;have h1:o.dst=some s:=by
        rw[←ls.dst o ho];unfold fov at hs;split at hs
        ·assumption
        ·simp at hs
       have h2:ok.dst=some s:=by
        rw[←tF];unfold fov at hx;split at hx
        ·assumption
        ·cases hx
       have:=after k ((a9y aB tj).2 i o dF jx (by simp[a5n,h1,h2]));rw[qM]at this;cases this
theorem c18(ok:EnvOk E){ro:Option Nat}{call:FuncId→List AV→a03→Option (AV×a03)}(ai:a3v E call){R:Type}{k:Frm→a03→Option R}{r:R}{F:Frm}{H:a03}{I:Nat→Prop}{ρ:PMap}{a:Act}{w:World}
 (aB:c3z an.toList=true)(hQ:∀F H I ρ a w,Now E e N F H I ρ a w→k F H=some r→Q .normal a w)(ak:Now E e N F H I ρ a w)(ae:a2g E true N call an.toList an.toList [] F H k=some r)(id:Nat) :
 (Code.region id an true).wpIn (wf ro) 0 E.P Q a w:=by
 refine wpIn_region_any ok.mixed ?_;obtain⟨aF,F',H',h1,h2,h3,h4,h5,h6,h7⟩:=a94 (ro:=ro) (e:=e) (N:=N) (m0:=H.length) (Q:=Q) (f0:=a33 F) (h0:=a02 H) ok ai ak.low an.toList [] F H (by simp) (by simp) rfl rfl rfl (λi r h=>by simp[nth]at h) ae;have i4:∀i,(Array.replicate an.size false).getD i false=false:=by intro i;simp only[e9u,Array.getElem?_replicate];split<;>rfl
 have dG:∀{V:Type} (o:Rec→Nat→Option V) (g0:Nat→V) (l:List Rec),gL o g0 (λi=>(Array.replicate an.size false).getD i false) l=g0:=by
  intro V o g0 l
  induction l with
  |nil=>rfl
  |cons a ah ih=>unfold gL;rw[e8g (by rw[i4];simp)];exact ih
 refine d4d aB h1 h5 h6 ?_ an.size _ I ρ a _ (by simp) ?_ ?_ ?_
 ·intro I' ρ' a' w' hd;refine hQ F' H' I' ρ' a' w' ⟨hd.imm,hd.map,hd.ext,?_,?_,⟨hd.size,λs=>by rw[h2];exact hd.frm s⟩,?_,hd.marks⟩ h7
  ·rw[h3];exact hd.rel
  ·intro b hb;have r7:H.length≤cnt H.length aF:=c42;refine hd.nrel b (by omega) (λhm=>?_);have:=c1o hm;omega
  ·have r7:H.length≤cnt H.length aF:=c42;have:=ak.low;omega
 ·refine Nat.le_trans (List.length_filter_le _ _) (by simp)
 ·intro j hj;have:=i4 j;rw[this]at hj;cases hj
 ·have dJ:=ak.drew;rw[dG,dG];exact⟨dJ.imm,dJ.map,dJ.ext,dJ.rel,λb hb _=>dJ.nrel b hb,⟨_,dJ.nrel⟩,dJ.frm.1,dJ.frm.2,dJ.marks⟩
end
end Go.Ax
/- AxMark: what a loop over a function leaves behind: blocks for deferred calls, shut when the function ends. -/
namespace Go.Ax
section
variable {I:Nat→Prop}{w w':World}
def SameD(w w':World)(c:Nat):Prop:=w'.heap[c]?=w.heap[c]?∨∃d,w.heap[c]?=some (.deferred d)
theorem SameD.map{c:Nat}{es:Array MapEntry}{cl:Nat}(h:SameD w w' c)(hc:w.heap[c]?=some (.map es cl)):w'.heap[c]?=some (.map es cl):=by
 rcases h with h|⟨d,h⟩
 ·rw[h,hc]
 ·rw[hc]at h;cases h
theorem SameD.cell{b o:Nat}{c:Value}(h:SameD w w' b)(hc:w.cell? ⟨b,o,none⟩=some c):w'.cell? ⟨b,o,none⟩=some c:=by
 rcases h with h|⟨d,h⟩
 ·rw[b47 h,hc]
 ·simp[World.cell?,h]at hc
mutual
theorem VRel.monoD(hw:∀c,I c→SameD w w' c):∀{ρ:PMap} (v:AV) {c:Value},VRel I w ρ v c→VRel I w' ρ v c
 |ρ,v,c,h=>by
  cases v with
  |junk=>simp[VRel]
  |bool b=>simpa[VRel]using h
  |int k n=>simpa[VRel]using h
  |str s=>simpa[VRel]using h
  |nilptr=>simpa[VRel]using h
  |nilslice=>simpa[VRel]using h
  |nilmap=>simpa[VRel]using h
  |nilfunc=>simpa[VRel]using h
  |nilifc=>simpa[VRel]using h
  |ptr b i o=>simpa only[VRel]using h
  |iptr cs=>simp only[VRel]at h⊢;obtain⟨b,off,rfl,hb,h⟩:=h;exact⟨b,off,rfl,hb,VAt.monoD hw cs (hw _ hb) h⟩
  |slice b off len cap=>simpa only[VRel]using h
  |islice aa cap=>
   simp only[VRel]at h⊢;obtain⟨a,n,k,rfl,h1,h2,h3⟩:=h;refine⟨a,n,k,rfl,h1,h2,h3.imp id ?_⟩
   rintro⟨hs,hb,h⟩
   exact⟨hs,hb,VRows.monoD hw aa (hw _ hb) h⟩
  |map b=>simpa only[VRel]using h
  |imap ks vs bs bh=>simp only[VRel]at h⊢;obtain⟨b,es,rfl,hb,he,h1,h2,h3⟩:=h;exact⟨b,es,rfl,hb,(hw _ hb).map he,VRels.monoD hw ks h1,VRels.monoD hw vs h2,h3⟩
  |iset ks=>simp only[VRel]at h⊢;obtain⟨b,es,cl,rfl,hb,he,h1⟩:=h;exact⟨b,es,cl,rfl,hb,(hw _ hb).map he,h1⟩
  |yfn b=>simpa only[VRel]using h
  |func fn fs cs=>simp only[VRel]at h⊢;obtain⟨cB,aI,rfl,h1,h2⟩:=h;exact⟨cB,aI,rfl,VRels.monoD hw fs h1,VRels.monoD hw cs h2⟩
  |iface t x=>simp only[VRel]at h⊢;obtain⟨x',rfl,h⟩:=h;exact⟨x',rfl,VRel.monoD hw x h⟩
  |agg cs=>simp only[VRel]at h⊢;obtain⟨aI,rfl,h⟩:=h;exact⟨aI,rfl,VRels.monoD hw cs h⟩
  |tuple cs=>simp only[VRel]at h⊢;obtain⟨aI,rfl,h⟩:=h;exact⟨aI,rfl,VRels.monoD hw cs h⟩
theorem VRels.monoD(hw:∀c,I c→SameD w w' c):∀{ρ:PMap} (vs:List AV) {cs:List Value},VRels I w ρ vs cs→VRels I w' ρ vs cs
 |ρ,[],cs,h=>by simpa[VRels]using h
 |ρ,v::vs,cs,h=>by simp only[VRels]at h⊢;obtain⟨c,aI,rfl,h1,h2⟩:=h;exact⟨c,aI,rfl,VRel.monoD hw v h1,VRels.monoD hw vs h2⟩
theorem VAt.monoD(hw:∀c,I c→SameD w w' c):∀{ρ:PMap} (vs:List AV) {b off:Nat},SameD w w' b→VAt I w ρ vs b off→VAt I w' ρ vs b off
 |ρ,[],b,off,hb,h=>by simp[VAt]
 |ρ,v::vs,b,off,hb,h=>by simp only[VAt]at h⊢;obtain⟨⟨c,hc,h1⟩,h2⟩:=h;exact⟨⟨c,hb.cell hc,VRel.monoD hw v h1⟩,VAt.monoD hw vs hb h2⟩
theorem VRows.monoD{k:Nat}(hw:∀c,I c→SameD w w' c):∀{ρ:PMap} (rs:List (List AV)) {b off:Nat},SameD w w' b→VRows I w k ρ rs b off→VRows I w' k ρ rs b off
 |ρ,[],b,off,hb,h=>by simp[VRows]
 |ρ,r::rs,b,off,hb,h=>by simp only[VRows]at h⊢;obtain⟨h0,h1,h2⟩:=h;exact⟨h0,VAt.monoD hw r hb h1,VRows.monoD hw rs hb h2⟩
end
theorem ORel.monoD{G:GTab (List AV)}{ρ:PMap}{m:Pl}(hw:∀c,I c→SameD w w' c)(o:AObj)(hb:w'.heap[m.blk]?=w.heap[m.blk]?)(h:ORel G I w ρ m o):ORel G I w' ρ m o:=by
 cases o with
 |row k aa=>obtain⟨h1,h2,⟨bQ,e,h3,h4⟩,h5⟩:=h;exact⟨h1,h2,⟨bQ,e,by rw[hb,h3],h4⟩,VRows.monoD hw aa (.inl hb) h5⟩
 |map ks vs bs bh=>obtain⟨es,h1,h2,h3,h4⟩:=h;exact⟨es,by rw[hb,h1],VRels.monoD hw ks h2,VRels.monoD hw vs h3,h4⟩
 |siter s pos=>obtain⟨h0,t,h1,h2⟩:=h;exact⟨h0,t,by rw[hb,h1],h2⟩
 |uset ks=>obtain⟨es,cl,h1,h2⟩:=h;exact⟨es,cl,by rw[hb,h1],h2⟩
 |miter ks cP dj=>
  obtain⟨h0,h⟩:=h;rcases h with ⟨h1,h2,h3⟩|⟨c,es,cl,seen,h1,h2,h3,h4,h5⟩
  ·exact⟨h0,.inl ⟨h1,h2,by rw[hb,h3]⟩⟩
  ·exact⟨h0,.inr ⟨c,es,cl,seen,h1,(hw c h1).map h2,h3,by rw[hb,h4],h5⟩⟩
 |yloop y F st=>obtain⟨ri,r,h0,h1,h2,h3,h4,h5,h6,h7⟩:=h;exact⟨ri,r,h0,by rw[hb,h1],h2,h3,h4,h5,λs=>VRel.monoD hw _ (h6 s),h7⟩
end
section
variable {G:GTab (List AV)}{I K:Nat→Prop}{ρ:PMap}{h:FHeap}{w w':World}
theorem HRel.shut(r:HRel G I K ρ h w){S:Nat→Prop}(hS:∀c,S c→I c∧∃d,w.heap[c]?=some (.deferred d))(aQ:w'.heap.size=w.heap.size)(hw:∀c,¬S c→w'.heap[c]?=w.heap[c]?) :
 HRel G I K ρ h w':=by
 have hD:∀c,SameD w w' c:=by
  intro c;by_cases hc:S c
  ·exact .inr (hS c hc).2
  ·exact .inl (hw c hc)
 refine⟨?_,r.inj,λb m hb=>by rw[aQ];exact r.dom b m hb,λc hc=>by rw[aQ];exact r.imm c hc,λc hc=>by rw[aQ];exact r.kept c hc,r.apart,?_⟩
 ·intro b o hb;obtain⟨m,h1,h2,h3,h4⟩:=r.live b o hb;exact⟨m,h1,h2,h3,ORel.monoD (λc _=>hD c) o (hw _ (λhc=>h2 (hS _ hc).1)) h4⟩
 ·intro g cs hg;obtain⟨h1,h2⟩:=r.glob g cs hg;exact⟨h1,VAt.monoD (λc _=>hD c) cs (hD g) h2⟩
theorem c0u(r:HRel G I K ρ h w){ob:Obj}(hw:w'.heap=w.heap.push ob)(ht:w'.tape=w.tape)(eM:w'.os=w.os)(aR:w'.output=w.output) :
 Stepped G I K ρ w (λc=>I c∨c=w.heap.size) ρ h w':=by
 have aN:∀c,c<w.heap.size→w'.heap[c]?=w.heap[c]?:=by intro c hc;rw[hw,f3v,e8g (by omega)]
 refine⟨λ_ h=>.inl h,λ_ _ h=>h,⟨eM,ht,aR,by rw[hw];simp,?_⟩,⟨?_,r.inj,?_,?_,?_,?_,?_⟩⟩
 ·rintro c (hc|hc)
  ·exact aN c (r.imm c hc)
  ·exact aN c (r.kept c hc)
 ·intro b o hb;obtain⟨m,h1,h2,h3,h4⟩:=r.live b o hb;have hd:=r.dom b m h1;exact⟨m,h1,λhc=>hc.elim h2 (λe=>by omega),h3,ORel.mono o (λ_ h=>.inl h) (λc hc=>aN c (r.imm c hc)) (λ_ _ h=>h) (aN _ hd) h4⟩
 ·intro b m hb;have:=r.dom b m hb;rw[hw];simp only[Array.size_push];omega
 ·rintro c (hc|rfl)
  ·have:=r.imm c hc;rw[hw];simp only[Array.size_push];omega
  ·rw[hw];simp
 ·intro c hc;have:=r.kept c hc;rw[hw];simp only[Array.size_push];omega
 ·rintro c (hc|rfl) hk
  ·exact r.apart c hc hk
  ·have:=r.kept _ hk;omega
 ·intro g cs hg;obtain⟨h1,h2⟩:=r.glob g cs hg;exact⟨.inl h1,VAt.mono (λ_ h=>.inl h) (λc hc=>aN c (r.imm c hc)) cs (λ_ _ h=>h) (aN g (r.imm g h1)) h2⟩
theorem b8q(r:HRel G I K ρ h w){c0:Nat}(hI:¬I c0)(hK:¬K c0)(hl:∀b o m,h b=some o→ρ b=some m→m.blk≠c0)(aQ:w'.heap.size=w.heap.size)
 (hw:∀c,c≠c0→w'.heap[c]?=w.heap[c]?)(ht:w'.tape=w.tape)(eM:w'.os=w.os)(aR:w'.output=w.output):Stepped G I K ρ w I ρ h w':=by
 have cw:∀c,I c→w'.heap[c]?=w.heap[c]?:=λc hc=>hw c (λe=>hI (e▸hc));refine⟨λ_ h=>h,λ_ _ h=>h,⟨eM,ht,aR,by omega,?_⟩,⟨?_,r.inj,λb m hb=>by rw[aQ];exact r.dom b m hb,λc hc=>by rw[aQ];exact r.imm c hc,λc hc=>by rw[aQ];exact r.kept c hc,r.apart,?_⟩⟩
 ·rintro c (hc|hc)
  ·exact cw c hc
  ·exact hw c (λe=>hK (e▸hc))
 ·intro b o hb;obtain⟨m,h1,h2,h3,h4⟩:=r.live b o hb;exact⟨m,h1,h2,h3,ORel.mono o (λ_ h=>h) cw (λ_ _ h=>h) (hw _ (hl b o m hb h1)) h4⟩
 ·intro g cs hg;obtain⟨h1,h2⟩:=r.glob g cs hg;exact⟨h1,VAt.mono (λ_ h=>h) cw cs (λ_ _ h=>h) (cw g h1) h2⟩
end
/-! ### a function's end -/
def a2p:List Nat→World→World
 | [],w=>w
 |r::rs,w=>a2p rs (w.putObj r (.deferred none))
theorem b16:∀(rs:List Nat) (w:World),(a2p rs w).heap.size=w.heap.size∧(a2p rs w).tape=w.tape∧(a2p rs w).os=w.os∧(a2p rs w).output=w.output∧
 ∀c,c∉rs→(a2p rs w).heap[c]?=w.heap[c]?
 | [],w=>⟨rfl,rfl,rfl,rfl,λ_ _=>rfl⟩
 |r::rs,w=>by obtain⟨h1,h2,h3,h4,h5⟩:=b16 rs (w.putObj r (.deferred none));refine⟨by rw[a2p,h1];simp,by rw[a2p,h2];rfl,by rw[a2p,h3];rfl,by rw[a2p,h4];rfl,λc hc=>?_⟩;simp only[e9m,not_or]at hc;rw[a2p,h5 c hc.2,World.putObj_heap_other hc.1]
theorem b1b{P:Program}{n:Nat}{F:Fence}{fn:Func}{tmps:Array Value}{R:Ending→World→Prop}:∀(rs:List Nat) (w:World),rs.Nodup→(∀r∈rs,w.heap[r]?=some (.deferred (some [])))→
 (∃v,(results fn tmps).run P (a2p rs w) = .ok v (a2p rs w)∧R (.returned v) (a2p rs w))→LeavesInM F n P fn tmps R (rs.map (λr=>(⟨.collected r,#[]⟩:Deferred))) .returning w
 | [],w,_,_,h=>by simpa[LeavesInM,LeavesIn,a2p]using h
 |r::rs,w,aU,hr,h=>by simp only[e12,LeavesInM];refine⟨by simp,.inl ⟨r,w.putObj r (.deferred none),rfl,run_takeDeferred (hr r (by simp)),?_⟩⟩;have aU:=f2c.1 aU;refine b1b rs _ aU.2 (λq hq=>?_) h;have aw:q≠r:=λe=>aU.1 (by rw[←e];exact hq);rw[World.putObj_heap_other aw];exact hr q (by simp[hq])
/-! ### a scope -/
theorem a8z{F:Fence}{n:Nat}{P:Program}{Q:Exit→Act→World→Prop}{a:Act}{w:World}{c:Code}(h:c.wpIn F n P (Exit.noGoto Q) a w):(Code.scope c).wpIn F n P Q a w:=by
 intro b k cs ln hb hr;have h0:(lone (b.atR a (.code (.scope c)::k)) cs w).fenced P F:=fenced_calm hb hr rfl;have s0:step P (lone (b.atR a (.code (.scope c)::k)) cs w) = .next (lone (b.atR a (.code c :: .inScope c::k)) cs w):=step_lone_go (by simp[stepG,stepG.exec,Frame.atR]);obtain⟨e,a₁,w₁,hq,bn⟩:=h b (.inScope c::k) cs ln hb hr;have s1:step P (lone (b.atR a₁ (.inScope c::k)) cs w₁) = .next (lone (b.atR a₁ k) cs w₁):=step_lone_go (by simp[stepG,stepG.exec,Frame.atR]);cases e with
 |normal=>exact⟨.normal,a₁,w₁,hq,.head h0 s0 (StepsIn.trans bn (.one (fenced_calm hb hr rfl) s1))⟩
 |exit id=>
  have hx:exitTo id (.inScope c::k)=exitTo id k:=by simp[exitTo]
  exact⟨.exit id,a₁,w₁,hq,λk' hk=>.head h0 s0 (bn.1 k' (by rw[hx];exact hk)),
   λiM hk=>let⟨k₁,h1,h2⟩:=bn.2 iM (by rw[hx];exact hk);⟨k₁,h1,.head h0 s0 h2⟩⟩
 |goto l=>exact hq.elim
 |ret=>exact⟨_,a₁,w₁,hq,.of_steps (.one h0 s0) bn⟩
 |panic ch=>exact⟨_,a₁,w₁,hq,.of_steps (.one h0 s0) bn⟩
 |outgrown=>exact⟨_,a₁,w₁,hq,.of_steps (.one h0 s0) bn⟩
end Go.Ax
/- AxCode: statements. -/
namespace Go.Ax
def a30:Bool→Code→Bool
 |top,.region _ an ag=>bif (d2y an.toList).isSome then top && !ag else bif ag then c3z an.toList else true
 |top,.seq a b=>a30 top a&&a30 false b
 |_,.cond _ a b=>a30 false a&&a30 false b
 |_,.block _ b=>a30 false b
 |_,.loop b=>a30 (a6i b).isSome b
 |_,.scope b=>a30 false b
 |_,_=>true
def a83(c:Code):Bool:=a30 false c
def AExit.conv:AExit→Exit
 |.normal=>.normal
 |.exit id=>.exit id
 |.ret=>.ret
def e0f(E:Env)(call:FuncId→List AV→a03→Option (AV×a03))(fid:Nat)(ro:Option Nat)(e:Entry)(N lf:Nat)(keep:Nat→List Nat)(c:Code):Prop:=
 ∀{R:Type} {cur:Nat},RFOk E fid N keep ro cur c→∀{k:AExit→Frm→a03→Option R} {r:R} {Q:Exit→Act→World→Prop},(∀x F H I ρ a w,Now E e N F H I ρ a w→k x F H=some r→Q x.conv a w)→
 ∀{F:Frm} {H:a03} {I:Nat→Prop} {ρ:PMap} {a:Act} {w:World},Now E e N F H I ρ a w→a40 E e.m N keep call lf cur c F H k=some r→c.wpIn (wf ro) 0 E.P Q a w
/-! ### a loop over a set -/
theorem b9n(x:Int):∀(a b:List Int),a++x::b∈c5l x (a++b)
 | [],[]=>by simp[c5l]
 | [],y::b=>by simp[c5l]
 |y::a,b=>by simp only[e9h,c5l,e9m];exact .inr (f0z (b9n x a b))
theorem b5o:∀{ks o:List Int},o.Perm ks→o∈b5p ks
 | [],o,h=>by rw[h.eq_nil];simp[b5p]
 |x::ks,o,h=>by obtain⟨a,b,rfl⟩:=List.append_of_mem (h.mem_iff.2 (f2o));have h2:(a++b).Perm ks:=(List.perm_middle.symm.trans h).cons_inv;simp only[b5p,f3d];exact⟨a++b,b5o h2,b9n x a b⟩
theorem c31:∀{F G:a03},c4x F G=true→F=G
 | [],[],_=>rfl
 |a::F,b::G,h=>by simp only[c4x,e7h]at h;rw[c30 _ _ h.1,c31 h.2]
 | [],_::_,h=>by simp[c4x]at h
 |_::_,[],h=>by simp[c4x]at h
theorem c32{x:Option R3}{r:R3}(h:d7g x r=true):x=some r:=by
 unfold d7g at h;split at h
 case h_2=>cases h
 rename_i e F H;simp only[e7h]at h;obtain⟨e',F',H'⟩:=r;have he:e=e':=by have:=h.1;cases e<;>cases e'<;>simp[e2c]at this<;>first|rfl|rw[this]
 rw[he,b71 h.2.1,c31 h.2.2]
section
variable {E:Env}
theorem b07{H:a03}{b x:Nat}{o:Option AObj}:a02 (H.set b o) x=if b=x∧b<H.length then o else a02 H x:=by
 unfold a02;rw[e8n];by_cases h:b=x
 ·subst h;by_cases h2:b<H.length
  ·simp[h2]
  ·simp[h2]
 ·simp[h]
theorem b7i{H:a03}{b:Nat}{o:AObj}(h:a02 H b=some o):b<H.length:=by
 unfold a02 at h;rcases f1d b H.length with h1|h1
 ·exact h1
 ·rw[e8m h1]at h;simp at h
theorem Now.dropIt{e:Entry}{N:Nat}{F:Frm}{H:a03}{I:Nat→Prop}{ρ:PMap}{a:Act}{w:World}(h:Now E e N F H I ρ a w)(it:Nat):Now E e N F (Ax.dropIt F H it) I ρ a w:=by
 unfold Ax.dropIt;split
 ·rename_i b i o hb;refine{ h with rel:=h.rel.fewer (λx ob hx=>?_),nrel:=by rw[f0l];exact h.nrel,low:=by rw[f0l];exact h.low };rw[b07]at hx;split at hx
  ·cases hx
  ·exact hx
 ·exact h
theorem Now.step{e:Entry}{N:Nat}{F:Frm}{H:a03}{I:Nat→Prop}{ρ:PMap}{a:Act}{w w':World}(h:Now E e N F H I ρ a w){b:Nat}{o:AObj}(hb:b<H.length)(st:Stepped E.G I e.K ρ w I ρ ((a02 H).eff H.length (.set b o)) w')
 {nx:Nat}(ge:nx<N){v:AV}{c:Value}(hv:VRel I w' ρ v c):Now E e N (a3i F (some nx) v) (H.set b (some o)) I ρ (a.put (some nx) c) w':=by
 have hl:(H.set b (some o)).length=H.length:=f0l;refine⟨h.imm,h.map,h.ext.trans h.imm st.ext,st.rel.fewer ?_,by rw[hl];exact h.nrel,?_,by rw[hl];exact h.low,by rw[a2x];exact h.marks.mono (λ_ h=>h) (λc hc=>st.ext.keep c (.inl hc))⟩
 ·exact c3y H (.set b o)
 ·exact(FRel.mono h.frm (λv c hv=>st.vrel hv)).set (by intro s hs;cases hs;exact ge) hv
theorem d37(ok:EnvOk E){call:FuncId→List AV→a03→Option (AV×a03)}(ai:a3v E call){fid:Nat}{ro:Option Nat}{e:Entry}{N lf:Nat}{keep:Nat→List Nat}{ah:Code}(cJ:e0f E call fid ro e N lf keep ah)
 {id:Nat}{an:Array Oper}{it nx:Nat}{ma:List Oper}(ge:d2y an.toList=some (it,nx,ma)){R:Type}{cur:Nat}(aM:RFOk E fid N keep ro cur ah){k:AExit→Frm→a03→Option R}{r:R}{Q:Exit→Act→World→Prop}
 (hQ:∀x F H I ρ a w,Now E e N F H I ρ a w→k x F H=some r→Q x.conv a w){F:Frm}{H:a03}{I:Nat→Prop}{ρ:PMap}{a:Act}{w:World}(ak:Now E e N F H I ρ a w)
 (ae:c5c e.m it (keep cur) (λF H k=>a40 E e.m N keep call lf cur (.seq (.region id an false) ah) F H k) F H k=some r):(Code.loop (.seq (.region id an false) ah)).wpIn (wf ro) 0 E.P Q a w:=by
 obtain⟨o0,dQ,dS,lN,gy⟩:∃o0,an.toList=o0::ma∧o0.op = .next (.tmp it) false∧o0.dst=some nx∧o0.guard=none:=by
  unfold d2y at ge;split at ge
  ·cases ge
  ·rename_i o rc he;split at ge
   ·rename_i sP ux h1 h2 h3;cases ge;exact⟨o,he,h1,h2,h3⟩
   ·cases ge
 unfold c5c at ae;split at ae
 case h_2=>cases ae
 rename_i ks dz;split at ae
 case h_2=>cases ae
 rename_i r0 rs jP;rw[cond_eq_ite]at ae;split at ae
 case isFalse=>cases ae
 rename_i aY;have aG:∀o,o.Perm ks→a58 e.m it (keep cur) ks (λF H k=>a40 E e.m N keep call lf cur (.seq (.region id an false) ah) F H k) [] o F H=some r0:=by
  intro o ho;have hm:=f0z (f:=λo=>a58 e.m it (keep cur) ks (λF H k=>a40 E e.m N keep call lf cur (.seq (.region id an false) ah) F H k) [] o F H) (b5o ho);rw[jP]at hm;rcases e9m.1 hm with h|h
  ·exact h
  ·exact c32 (e9r.1 aY _ h)
 refine b8l (n:=ks.length+1) (λn a w=>∃F H I ρ aJ R,Now E e N F H I ρ a w∧R.length+1=n∧(aJ++R).Perm ks∧
  ∀o,o.Perm R→a58 e.m it (keep cur) ks (λF H k=>a40 E e.m N keep call lf cur (.seq (.region id an false) ah) F H k) aJ o F H=some r0) ?_ ?_ ⟨F,H,I,ρ,[],ks,ak,rfl,List.Perm.refl _,aG⟩
 ·rintro n a w ⟨F,H,I,ρ,aJ,R,ak,hn,fL,aG⟩
  -- the head
  have head:∀{iw:Option Int} {e' F' H'},b17 e.m it (keep cur) ks aJ (λF H k=>a40 E e.m N keep call lf cur (.seq (.region id an false) ah) F H k) iw F H=some (e',F',H')→
   ∃F1 H1 ρ1 b dj,gcD e.m (keep cur) F H=some (F1,H1)∧Now E e N F1 H1 I ρ1 a w∧a33 F1 it = .ptr b 0 0∧a02 H1 b=some (.miter ks aJ dj)∧
    a40 E e.m N keep call lf cur (.seq (.region id an false) ah) F1 (H1.set b (some (.miter ks aJ (some iw)))) (λe F' H'=>some (e,F',H'))=some (e',F',H'):=by
   intro iw e' F' H' hr;unfold b17 at hr;split at hr
   case h_2=>cases hr
   rename_i F1 H1 hg;split at hr
   case h_2=>cases hr
   rename_i H2 ha;unfold f1x at ha;split at ha
   case h_2=>cases ha
   rename_i b hb;split at ha
   case h_2=>cases ha
   rename_i jE cP dj dq;rw[cond_eq_ite]at ha;split at ha
   case isFalse=>cases ha
   rename_i hc;simp only[e7h,e9j]at hc;obtain⟨rfl,rfl⟩:=hc;cases ha;have dc:=hg;unfold gcD at dc;dsimp only at dc;rw[cond_eq_ite]at dc;split at dc
   case isFalse=>cases dc
   rename_i hc;simp only[e7h,e9r,f1h]at hc;cases dc;obtain⟨ρ',gQ⟩:=(ak.keep (keep cur)).gc (a8l hc.1.1) hc.1.2;exact⟨_,_,ρ',b,dj,hg,gQ,hb,dq,hr⟩
  -- one round,after the gJ
  have jD:∀{iw:Option Int} {e':AExit} {F':Frm} {H':a03} {F1:Frm} {H1:a03} {ρ1:PMap} {b:Nat} {dj:Option (Option Int)} {v:AV} {o1:AObj} {c:Value} {w':World},
   Now E e N F1 H1 I ρ1 a w→a33 F1 it = .ptr b 0 0→a02 H1 b=some (.miter ks aJ dj)→
   (d33 F1 (H1.set b (some (.miter ks aJ (some iw)))) it=some (v,(H1.set b (some (.miter ks aJ (some iw)))).set b (some o1)))→
   (Instr.next (a.eval (.tmp it)) false o0.type).run E.P w = .ok c w'→Stepped E.G I e.K ρ1 w I ρ1 ((a02 H1).eff H1.length (.set b o1)) w'→VRel I w' ρ1 v c→
   a40 E e.m N keep call lf cur (.seq (.region id an false) ah) F1 (H1.set b (some (.miter ks aJ (some iw)))) (λe F' H'=>some (e,F',H'))=some (e',F',H')→
   ∀{Q':Exit→Act→World→Prop},(∀I ρ a w,Now E e N F' H' I ρ a w→Q' e'.conv a w)→(Code.seq (.region id an false) ah).wpIn (wf ro) 0 E.P Q' a w:=by
   intro iw e' F' H' F1 H1 ρ1 b dj v o1 c w' bf hb dq jv nC aB hv hr Q' pe;unfold a40 at hr;unfold a40 at hr;rw[ge]at hr;simp only[Bool.false_or,cond_eq_ite]at hr;split at hr
   case isTrue=>cases hr
   rename_i aj;have aj:nx<N:=by simpa[e9o]using aj
   rw[jv]at hr;simp only[List.set_set]at hr;have ml:=bf.step (b7i dq) aB aj hv;refine wpIn_seq (wpIn_region ?_);have al:List.range an.size=0::List.range' 1 ma.length:=by rw[List.range_eq_range',←e9n,dQ,e7g,List.range'_succ]
   rw[al];have ho:an[0]?=some o0:=by
    have:an.toList[0]?=some o0:=by rw[dQ];rfl
    simpa using this
   refine b52 ho (by simp[Region.wanted,gy]) ?_;refine a7l (by rw[dS];intro c hc;cases hc) ?_;have hx:(execOp a.eval o0).run E.P w = .ok (.value c) w':=by
    have:execOp a.eval o0=(do pure (.value (←Instr.next (a.eval (.tmp it)) false o0.type))):=by obtain⟨d,op,ty,pos,after,guard⟩:=o0;simp only at dS;subst dS;rfl
    rw[this];simp[nC]
   rw[hx,Oper.uponIn_value,lN];refine b0f ok ai (an:=an) (k:=λF' H'=>a40 E e.m N keep call lf cur ah F' H' λe F' H'=>some (e,F',H')) ?_ ma 1 _ _ _ _ _ _ _ (by rw[dQ];rfl) ml hr;intro F H I ρ a w hn hk;refine cJ aM ?_ hn hk;intro x F H I ρ a w hn hk;cases hk;exact pe I ρ a w hn
  -- what the iterator answers
  have gJ:∀{F1:Frm} {H1:a03} {ρ1:PMap} {b:Nat} {dj:Option (Option Int)},Now E e N F1 H1 I ρ1 a w→a33 F1 it = .ptr b 0 0→a02 H1 b=some (.miter ks aJ dj)→
   (∃i,i∈ks∧i∉aJ∧∃w',(Instr.next (a.eval (.tmp it)) false o0.type).run E.P w = .ok (.tuple #[.bool true,.int .i64 i,.bool true]) w'∧Stepped E.G I e.K ρ1 w I ρ1 ((a02 H1).eff H1.length (.set b (.miter ks (aJ++[i]) none))) w')∨
    ((∀i∈ks,i∈aJ)∧∃w',(Instr.next (a.eval (.tmp it)) false o0.type).run E.P w = .ok (.tuple #[.bool false]) w'∧Stepped E.G I e.K ρ1 w I ρ1 ((a02 H1).eff H1.length (.set b (.miter ks aJ none))) w'):=by
   intro F1 H1 ρ1 b dj bf hb dq;have hp:=bf.frm.2 it;rw[hb]at hp;simp only[VRel]at hp;obtain⟨m,hm,dZ⟩:=hp;obtain⟨m',aX,_,_,h0,_⟩:=bf.rel.live b _ dq;obtain rfl:m=m':=z9o (hm.symm.trans aX);have:a.eval (.tmp it) = .pointer (some ⟨m.blk,0,none⟩):=by show a.tmps.getD it undef=_;rw[dZ,h0];simp
   rw[this];exact d31 bf.rel dq hm o0.type
  have nodup:∀{H1:a03} {ρ1:PMap} {F1:Frm} {b:Nat} {dj:Option (Option Int)},Now E e N F1 H1 I ρ1 a w→a02 H1 b=some (.miter ks aJ dj)→ks.Nodup:=by
   intro H1 ρ1 F1 b dj bf dq;obtain⟨m',aX,_,_,h0,ho⟩:=bf.rel.live b _ dq;rcases ho with ⟨h1,_⟩|⟨c,es,cl,seen,_,_,hs,_⟩
   ·rw[h1];exact List.nodup_nil
   ·exact hs.2.2.1
  have aE:∀{H1:a03} {b:Nat} {dj:Option (Option Int)} (iw:Option Int),a02 H1 b=some (.miter ks aJ dj)→a02 (H1.set b (some (.miter ks aJ (some iw)))) b=some (.miter ks aJ (some iw)):=by intro H1 b dj iw dq;rw[b07,e8j ⟨rfl,b7i dq⟩]
  cases R with
  |nil=>
   have h1:=aG [] (List.Perm.refl _);unfold a58 at h1;split at h1
   ·cases h1
   ·rename_i e' F' H' aw hr;cases h1;obtain⟨F1,H1,ρ1,b,dj,hg,bf,hb,dq,dV⟩:=head hr;rcases gJ bf hb dq with ⟨i,hi,mj,_⟩|⟨_,w',kZ,aB⟩
    ·have:=fL.mem_iff.2 hi;rw[e7i]at this;exact absurd this mj
    ·refine jD (v:=.tuple [.bool false]) (c:=.tuple #[.bool false]) bf hb dq (by unfold d33;rw[hb,];simp only[aE none dq]) kZ aB (by simp only[VRel];exact⟨_,rfl,by simp only[VRels];exact⟨_,_,rfl,by simp[VRel],rfl⟩⟩) dV ?_;intro I ρ a w hn;have hq:=hQ e' F' _ I ρ a w (hn.dropIt it) ae;cases e' with
     |normal=>exact(aw rfl).elim
     |exit id=>exact hq
     |ret=>exact hq
   ·cases h1
  |cons x R=>
   have h1:=aG (x::R) (List.Perm.refl _);have gP:∃e' F' H',b17 e.m it (keep cur) ks aJ (λF H k=>a40 E e.m N keep call lf cur (.seq (.region id an false) ah) F H k) (some x) F H=some (e',F',H'):=by
    unfold a58 at h1;split at h1
    ·rename_i F' H' hr;exact⟨_,_,_,hr⟩
    ·cases h1
   obtain⟨_,_,_,gP⟩:=gP;obtain⟨F1,H1,ρ1,b,dj,hg,bf,hb,dq,_⟩:=head gP;have aU:=nodup bf dq;rcases gJ bf hb dq with ⟨i,hi,mj,w',kZ,aB⟩|⟨n7,_⟩
   ·have tx:i∈x::R:=by
     rcases e9s.1 (fL.mem_iff.2 hi)with h|h
     ·exact absurd h mj
     ·exact h
    have dZ:(i::(x::R).erase i).Perm (x::R):=(List.perm_cons_erase tx).symm;have h2:=aG _ dZ;unfold a58 at h2;split at h2
    case h_2=>cases h2
    rename_i F' H' hr;obtain⟨uW,ut,ρ1',b',us,dc,tl,aW,tA,dV⟩:=head hr;rw[hg]at dc;cases dc;rw[hb]at aW;cases aW;refine jD (v:=.tuple [.bool true,.int .i64 i,.bool true]) (c:=.tuple #[.bool true,.int .i64 i,.bool true]) bf hb dq (by unfold d33;rw[hb];simp only[aE (some i) dq]) kZ aB
     (by simp only[VRel];exact⟨_,rfl,by simp only[VRels];exact⟨_,_,rfl,by simp[VRel],_,_,rfl,by simp[VRel],_,_,rfl,by simp[VRel],rfl⟩⟩) dV ?_
    intro I2 ρ2 a2 w2 cZ;refine⟨F',H',I2,ρ2,aJ++[i],(x::R).erase i,cZ,?_,?_,?_⟩
    ·have:=dZ.length_eq;simp only[e7g]at this hn⊢;omega
    ·rw[e7m];exact(dZ.append_left aJ).trans fL
    ·intro o ho;have h3:=aG (i::o) ((ho.cons i).trans dZ);unfold a58 at h3;rw[hr]at h3;exact h3
   ·have hx:x∈ks:=fL.mem_iff.1 (by simp);have jN:=fL.nodup_iff.2 aU;rw[List.nodup_append]at jN;exact absurd rfl (jN.2.2 x (n7 x hx) x (by simp))
 ·rintro a w ⟨F,H,I,ρ,aJ,R,_,hn,_⟩
  omega
/-! ### a loop over a function -/
theorem b2j:∀(F:List (Nat×AV)) (s:Nat),b8t F s=a33 F s
 | [],s=>rfl
 |(t,v)::F,s=>by simp only[b8t,a33,b2j F s]
theorem c6v{H:a03}{b:Nat}{st:YSt}(h:e4m H b=some st):∃y F,a02 H b=some (.yloop y F st):=by
 unfold e4m at h;split at h
 ·rename_i y F uu hb;cases h;exact⟨y,F,hb⟩
 ·cases h
theorem b8k{H H':a03}{b:Nat}{old new:YSt}(h:d6y H b old new=some H'):∃y F,a02 H b=some (.yloop y F old)∧H'=H.set b (some (.yloop y F new)):=by
 unfold d6y at h;split at h
 ·rename_i y F st hb;rw[cond_eq_ite]at h;split at h
  ·rename_i aB;have aB:=of_decide_eq_true aB;subst aB;cases h;exact⟨y,F,hb,rfl⟩
  ·cases h
 ·cases h
theorem Now.yput{e:Entry}{N:Nat}{F:Frm}{H:a03}{I:Nat→Prop}{ρ:PMap}{a:Act}{w:World}(h:Now E e N F H I ρ a w){b y:Nat}{F0:Frm}{old new:YSt}{m:Pl}{r r':Loop}
 (hb:a02 H b=some (.yloop y F0 old))(hm:ρ b=some m)(hr:w.heap[m.blk]?=some (.loop r))(bS:r'.tmps=r.tmps∧r'.params=r.params∧r'.assign=r.assign∧r'.body=r.body)
 (aB:match new with
  |.ready=>r'.state = .ready∧r'.pending=none
  |.busy=>r'.state = .busy
  |.done j=>r'.state = .done∧r'.pending=some (c3e j)):Now E e N F (H.set b (some (.yloop y F0 new))) I ρ a (w.putObj m.blk (.loop r')):=by
 obtain⟨m',aX,dy,fA,ri,r0,h0,h1,h2,h3,h4,h5,h6,h7⟩:=h.rel.live b _ hb;obtain rfl:m=m':=z9o (hm.symm.trans aX);obtain rfl:r=r0:=by rw[hr]at h1;cases h1;rfl
 have aj:=h.rel.dom b m hm;have cw:∀c,I c→(w.putObj m.blk (.loop r')).heap[c]?=w.heap[c]?:=λc hc=>World.putObj_heap_other (λe=>dy (e▸hc));have st:Stepped E.G I e.K ρ w I ρ ((a02 H).eff H.length (.set b (.yloop y F0 new))) (w.putObj m.blk (.loop r')):=by refine a1z h.rel hb hm (by simp) (λc hc=>World.putObj_heap_other hc) rfl rfl rfl ?_;refine⟨ri,r',h0,World.putObj_heap_same aj,by rw[bS.1];exact h2,by rw[bS.2.1];exact h3,by rw[bS.2.2.1];exact h4,by rw[bS.2.2.2];exact h5,λs=>?_,aB⟩;rw[bS.1];exact VRel.mono (λ_ h=>h) cw _ (λ_ _ h=>h) (h6 s)
 have hl:(H.set b (some (AObj.yloop y F0 new))).length=H.length:=f0l;exact⟨h.imm,h.map,h.ext.trans h.imm st.ext,st.rel.fewer (c3y H (.set b (.yloop y F0 new))),by rw[hl];exact h.nrel,FRel.mono h.frm (λv c hv=>st.vrel hv),by rw[hl];exact h.low,h.marks.mono (λ_ h=>h) (λc hc=>st.ext.keep c (.inl hc))⟩
def YSt.jump:YSt→Option Code
 |.done j=>some (c3e j)
 |_=>none
theorem e7b(ok:EnvOk E){call:FuncId→List AV→a03→Option (AV×a03)}(ai:a3v E call){fid:Nat}{e:Entry}{N lf:Nat}{keep:Nat→List Nat}{g:Operand}{ps:Array Tmp}{asg body:Code}
 {R:Type}{cur:Nat}(aM:RFOk E fid N keep none cur (.rangeFunc g ps asg body)){k:AExit→Frm→a03→Option R}{r:R}{Q:Exit→Act→World→Prop}(hQ:∀x F H I ρ a w,Now E e N F H I ρ a w→k x F H=some r→Q x.conv a w)
 {F:Frm}{H:a03}{I:Nat→Prop}{ρ:PMap}{a:Act}{w:World}(ak:Now E e N F H I ρ a w)(ae:a40 E e.m N keep call lf cur (.rangeFunc g ps asg body) F H k=some r) :
 (Code.rangeFunc g ps asg body).wpIn (wf none) 0 E.P Q a w:=by
 unfold a40 at ae;split at ae
 case h_2=>cases ae
 rename_i gf fs cs y iZ hy;rw[cond_eq_ite]at ae;split at ae
 case isFalse=>cases ae
 rename_i hc;simp only[e7h,f0x]at hc;obtain⟨hg,_⟩:=hc;split at ae
 case h_2=>cases ae
 rename_i v H2 σ d7;obtain⟨y',iD,kv⟩:=aM.2 (cur,⟨N,ps.toList,asg,body,fid⟩) (by simp[rfs]);rw[hy]at iD;cases iD;have hf:=b2x ak.rel ak.frm g;rw[iZ]at hf;simp only[VRel]at hf;obtain⟨cB,aI,gA,jU,cR⟩:=hf;refine wpIn_rangeFunc (F:=Fence.wide) (λfn _=>?_)
 let rec0:Loop:={ state:=.ready,pending:=none,fn,tmps:=a.tmps,params:=ps,assign:=asg,body,defers:=w.heap.size }
 let w1:World:=w.alloc (.deferred (some []))
 let w2:World:=w1.alloc (.loop rec0)
 let m:Pl:=⟨w.heap.size+1,0,0,0⟩
 let Y:AObj:=.yloop y (a1o (keep cur) F) .ready
 have ig:w1.heap.size=w.heap.size+1:=by simp[w1]
 have l9:Stepped E.G I e.K ρ w (λc=>I c∨c=w.heap.size) ρ (a02 H) w1:=c0u ak.rel (ob:=.deferred (some [])) rfl rfl rfl rfl;have aN:∀b q,ρ b=some q→(ρ.set H.length m) b=some q:=PMap.set_old (ak.nrel _ (e9k _));have gM:∀c,c<w1.heap.size→w2.heap[c]?=w1.heap[c]?:=by intro c hc;show(w1.heap.push _)[c]?=_;rw[f3v,e8g (by omega)]
 have oF:Stepped E.G (λc=>I c∨c=w.heap.size) e.K ρ w1 (λc=>I c∨c=w.heap.size) (ρ.set H.length m) ((a02 H).eff H.length (.new Y)) w2:=by
  refine a2a l9.rel (b6q H) (ak.nrel _ (e9k _)) (ob:=.loop rec0) rfl rfl rfl rfl ig.symm ?_;refine⟨_,rec0,kv,?_,ak.frm.1,rfl,rfl,rfl,λs=>?_,rfl,rfl⟩
  ·have:=World.alloc_heap_new w1 (.loop rec0);rw[ig]at this;exact this
  ·rw[b2j,b3o];split
   ·exact VRel.mono (λc hc=>hc) (λc hc=>gM c (l9.rel.imm c hc)) _ aN (l9.vrel (ak.frm.2 s))
   ·simp[VRel]
 have ni:HRel E.G (λc=>I c∨c=w.heap.size) e.K (ρ.set H.length m) (a02 (H++[some Y])) w2:=oF.rel.fewer (c3y H (.new Y));have cZ:NRel (ρ.set H.length m) (H++[some Y]).length:=by intro b hb;simp only[e8i,e7g,e8c]at hb;simp only[PMap.set];rw[e8g (by omega)];exact ak.nrel b (by omega)
 have up:∀{v:AV} {c:Value},VRel I w ρ v c→VRel (λc=>I c∨c=w.heap.size) w2 (ρ.set H.length m) v c:=λhv=>oF.vrel (l9.vrel hv);have qY:∀{v:List AV} {c:List Value},VRels I w ρ v c→VRels (λc=>I c∨c=w.heap.size) w2 (ρ.set H.length m) v c:=λhv=>oF.vrels (l9.vrels hv);have aD:VRels (λc=>I c∨c=w.heap.size) w2 (ρ.set H.length m) (fs++[.yfn H.length]++cs) (cB ++ #[Value.func (.yield (w.heap.size+1)) #[] #[]]++aI).toList:=by simp only[Array.toList_append];refine VRels.append (VRels.append (qY jU) ?_) (qY cR);simp only[VRels];exact⟨_,_,rfl,by simp only[VRel];exact⟨m,by simp[PMap.set],rfl⟩,rfl⟩
 have gD:=b0y (ai gf) d7 ni cZ aD;obtain⟨i,hi⟩:=e7n.1 hg;rw[b4k (c5v ok hi)]at gD;have bn:(cB ++ #[Value.func (.yield (w.heap.size+1)) #[] #[]]++aI).toList.toArray=cB ++ #[Value.func (.yield (w.heap.size+1)) #[] #[]]++aI:=by apply f3t;simp
 rw[bn]at gD;refine⟨w.heap.size+1,[{ target:=.collected w.heap.size,args:=#[] }],w2,⟨.fn (.func gf) aI,cB ++ #[Value.func (.yield (w.heap.size+1)) #[] #[]]⟩,w2,gf,_,w2,run_enterLoop_outer fn a.tmps ps asg body,?_,λ_ _=>trivial,?_,λh=>by simp[Fence.wide]at h,callsIn_wide.2 (Calls.mono gD ?_)⟩
 ·have qu:a.eval (.const (Value.func (.yield (w.heap.size+1)) #[] #[]))=Value.func (.yield (w.heap.size+1)) #[] #[]:=rfl;simp only[resolve,rangeCall,gA,Deferred.ofValue,List.map_toArray,e12,e7j,qu];rfl
 ·simp only[invoke];exact a3p ok hg _
 rintro en w3 ⟨c,I',ρ',rfl,aC,cV⟩
 rw[e8i,List.length_singleton]at aC
 -- behind the loop
 have fin:∀(st:YSt),e4m H2 H.length=some st→∀(oV:st≠ .busy),∃w4,(Instr.endLoop (w.heap.size+1)).run E.P w3 = .ok st.jump w4∧
  Now E e N F (H2.set H.length none) I' ρ' { a with defers:=[{ target:=.collected w.heap.size,args:=#[] }]++a.defers } w4:=by
  intro st aB oV;obtain⟨y1,F1,hb⟩:=c6v aB;obtain⟨m1,bR,dy,fA,uv,r1,g0,g1,g2,g3,g4,g5,g6,g7⟩:=aC.rel.live _ _ hb;have hm:ρ' H.length=some m:=by rw[aC.map _ (by omega)];simp[PMap.set]
  obtain rfl:m=m1:=z9o (hm.symm.trans bR);have gq:r1.state≠ .busy∧r1.pending=st.jump:=by
   cases st with
   |ready=>exact⟨by rw[g7.1];simp,g7.2⟩
   |busy=>exact absurd rfl oV
   |done j=>exact⟨by rw[g7.1];simp,g7.2⟩
  have qp:=run_endLoop (P:=E.P) g1 gq.1;refine⟨w3.putObj m.blk (.loop { r1 with state:=.exhausted }),by rw[←gq.2];exact qp,?_⟩;have cL:=aC.low;have tQ:H.length<H2.length:=by omega
  have qZ:Stepped E.G I' e.K ρ' w3 I' ρ' (a02 (H2.set H.length none)) (w3.putObj m.blk (.loop { r1 with state:=.exhausted })):=by
   refine b8q (c0:=m.blk) (aC.rel.fewer ?_) dy fA ?_ (by simp) (λc hc=>World.putObj_heap_other hc) rfl rfl rfl
   ·intro b o hb;rw[b07]at hb;split at hb
    ·cases hb
    ·exact hb
   ·intro b o q aW hq he;rw[b07]at aW;split at aW
    ·cases aW
    ·rename_i aw;have:=aC.rel.inj b H.length q m (by simp[aW]) (by simp[hb]) hq hm he;exact aw ⟨this.symm,tQ⟩
  have iv:∀c,I c→I' c:=λc hc=>aC.imm c (.inl hc);have cg:Ext I e.K w (w3.putObj m.blk (.loop { r1 with state:=.exhausted })):=((l9.ext.trans (λ_ h=>.inl h) oF.ext).trans (λ_ h=>.inl h) aC.ext).trans iv qZ.ext;have hρ':∀b q,ρ b=some q→ρ' b=some q:=by
   intro b q hq;have cj:b<H.length:=by
    rcases f1d b H.length with h|h
    ·exact h
    ·rw[ak.nrel b h]at hq;cases hq
   rw[aC.map b (by omega)];exact aN b q hq
  have hl:(H2.set H.length none).length=H2.length:=f0l;refine⟨λc hc=>iv c (ak.imm c hc),λb hb=>?_,ak.ext.trans ak.imm cg,qZ.rel,by rw[hl];exact aC.nrel,FRel.mono ak.frm (λv c hv=>VRel.mono iv (λc hc=>cg.keep c (.inl hc)) v hρ' hv),by rw[hl];have:=ak.low;omega,?_⟩
  ·have:=ak.low;rw[aC.map b (by omega)];simp only[PMap.set];rw[e8g (by omega)];exact ak.map b hb
  ·obtain⟨rs,q1,q2,q3⟩:=ak.marks;refine⟨w.heap.size::rs,by rw[q1];rfl,f2c.2 ⟨λhm=>?_,q2⟩,?_⟩
   ·have:=(f0n.1 (q3 _ hm).2.2).1;omega
   ·intro q hq;rcases e9m.1 hq with rfl|hq
    ·refine⟨aC.imm _ (.inr rfl),ak.ext.size,?_⟩;rw[World.putObj_heap_other (by show w.heap.size≠w.heap.size+1;omega),aC.ext.keep _ (.inl (.inr rfl)),gM _ (by omega)];exact World.alloc_heap_new w _
    ·obtain⟨p1,p2,p3⟩:=q3 q hq;exact⟨iv q p1,p2,by rw[cg.keep q (.inl p1)];exact p3⟩
 show rangePost Fence.wide 0 E.P (w.heap.size+1) Q _ (.returned c) w3;split at ae
 ·rename_i aB;obtain⟨w4,h1,h2⟩:=fin _ aB (by simp);exact⟨none,w4,h1,hQ .normal _ _ _ _ _ _ h2 ae⟩
 ·rename_i aB;obtain⟨w4,h1,h2⟩:=fin _ aB (by simp);exact⟨some .ret,w4,h1,wpIn_ret (hQ .ret _ _ _ _ _ _ h2 ae)⟩
 ·rename_i id aB;obtain⟨w4,h1,h2⟩:=fin _ aB (by simp);exact⟨some (.exit id),w4,h1,wpIn_exit (hQ (.exit id) _ _ _ _ _ _ h2 ae)⟩
 ·cases ae
theorem d4n(ok:EnvOk E){call:FuncId→List AV→a03→Option (AV×a03)}(ai:a3v E call){fid:Nat}{ro:Option Nat}{e:Entry}{N lf:Nat}{keep:Nat→List Nat}:∀(c:Code),
 (a30 false c=true→e0f E call fid ro e N lf keep c)∧(∀x r,c = .seq x r→a30 false r=true→e0f E call fid ro e N lf keep r):=by
 intro c
 induction c with
 |skip=>exact⟨λ_ R cur aM k r Q hQ F H I ρ a w ak ae=>wpIn_skip (hQ .normal F H I ρ a w ak ae),λ_ _ h=>by cases h⟩
 |label l=>exact⟨λ_ R cur aM k r Q hQ F H I ρ a w ak ae=>wpIn_label (hQ .normal F H I ρ a w ak ae),λ_ _ h=>by cases h⟩
 |exit id=>exact⟨λ_ R cur aM k r Q hQ F H I ρ a w ak ae=>wpIn_exit (hQ (.exit id) F H I ρ a w ak ae),λ_ _ h=>by cases h⟩
 |ret=>exact⟨λ_ R cur aM k r Q hQ F H I ρ a w ak ae=>wpIn_ret (hQ .ret F H I ρ a w ak ae),λ_ _ h=>by cases h⟩
 |region id an ag=>
  refine⟨?_,λ_ _ h=>by cases h⟩;intro aB R cur aM k r Q hQ F H I ρ a w ak ae;have pe:∀F H I ρ a w,Now E e N F H I ρ a w→k .normal F H=some r→Q .normal a w:=λF H I ρ a w h hk=>hQ .normal _ H I ρ a w h hk;unfold a30 at aB;unfold a40 at ae;cases ge:d2y an.toList with
  |some x=>rw[ge]at aB;cases aB
  |none=>
   rw[ge]at aB ae;cases ag with
   |true=>exact c18 (an:=an) ok ai aB pe ak ae id
   |false=>refine wpIn_region ?_;have:=b0f (ro:=ro) ok ai (an:=an) pe an.toList 0 [] F H I ρ a w rfl ak ae;rw[List.range_eq_range',←e9n];exact this
 |seq x y ihx ihy=>
  refine⟨?_,λ_ _ h hd=>by cases h;exact ihy.1 hd⟩;intro aB R cur aM k r Q hQ F H I ρ a w ak ae;simp only[a30,e7h]at aB;refine wpIn_seq (ihx.1 aB.1 aM.seq1 ?_ ak ae);intro x F H I ρ a w hn hk;cases x with
  |normal=>exact ihy.1 aB.2 aM.seq2 hQ hn hk
  |exit id=>exact hQ (.exit id) F H I ρ a w hn hk
  |ret=>exact hQ .ret F H I ρ a w hn hk
 |cond c x y ihx ihy=>
  refine⟨?_,λ_ _ h=>by cases h⟩;intro aB R cur aM k r Q hQ F H I ρ a w ak ae;simp only[a30,e7h]at aB;unfold a40 at ae;split at ae
  case h_2=>cases ae
  rename_i t ht;have hc:=b2x ak.rel ak.frm c;rw[ht]at hc;simp only[VRel]at hc;cases t
  ·exact wpIn_cond_false hc (ihy.1 aB.2 aM.cond2 hQ ak ae)
  ·exact wpIn_cond_true hc (ihx.1 aB.1 aM.cond1 hQ ak ae)
 |block id b ih=>
  refine⟨?_,λ_ _ h=>by cases h⟩;intro aB R cur aM k r Q hQ F H I ρ a w ak ae;refine wpIn_block (ih.1 aB aM.block ?_ ak ae);intro x F H I ρ a w hn hk;cases x with
  |normal=>exact hQ .normal F H I ρ a w hn hk
  |exit id'=>
   simp only[AExit.conv,Exit.inBlock];dsimp only at hk;rw[cond_eq_ite]at hk;split at hk
   ·rename_i h;rw[e8j (by simpa using h)];exact hQ .normal F H I ρ a w hn hk
   ·rename_i h;rw[e8g (by simpa using h)];exact hQ (.exit id') F H I ρ a w hn hk
  |ret=>exact hQ .ret F H I ρ a w hn hk
 |loop b ih=>
  refine⟨?_,λ_ _ h=>by cases h⟩;intro aB R cur aM k r Q hQ F H I ρ a w ak ae;unfold a30 at aB;unfold a40 at ae;cases dw:a6i b with
  |some it=>
   rw[dw]at aB ae;unfold a6i at dw;split at dw
   case h_2=>cases dw
   rename_i id an ah;obtain⟨⟨sP,nx,ma⟩,h1,h2⟩:=a07 dw;simp only at h2;subst h2;have aB:a30 true (.seq (.region id an false) ah)=true:=aB;simp only[a30,e7h]at aB;exact d37 ok ai (ih.2 _ _ rfl aB.2) h1 aM.loop.seq2 hQ ak ae
  |none=>
  rw[dw]at aB ae;refine b8l (n:=lf) (λn a w=>∃F H I ρ,Now E e N F H I ρ a w∧b1p e.m (keep cur) (λF H k=>a40 E e.m N keep call lf cur b F H k) n F H (λx F H=>bif d03 (keep cur)then k x (c23 (e.m+c5u (keep cur)) H F) (b3r (e.m+c5u (keep cur)) H)else k x F H)=some r) ?_ ?_ ⟨F,H,I,ρ,ak,ae⟩
  ·rintro n a w ⟨F,H,I,ρ,ak,ae⟩
   unfold b1p at ae;dsimp only at ae;rw[cond_eq_ite]at ae;split at ae
   case isFalse=>cases ae
   rename_i hc;simp only[e7h,e9r,f1h]at hc;obtain⟨ρ',gQ⟩:=(ak.keep (keep cur)).gc (a8l hc.1.1) hc.1.2;refine ih.1 aB aM.loop ?_ gQ ae;intro x F H I ρ a w hn hk;have hz:∀x,(bif d03 (keep cur)then k x (c23 (e.m+c5u (keep cur)) H F) (b3r (e.m+c5u (keep cur)) H)else k x F H)=some r→Q x.conv a w:=by
    intro x hk;rw[cond_eq_ite]at hk;split at hk
    ·obtain⟨I',ρ',h'⟩:=hn.frz (c5u (keep cur));exact hQ x _ _ I' ρ' a w h' hk
    ·exact hQ x F H I ρ a w hn hk
   cases x with
   |normal=>exact⟨F,H,I,ρ,hn,hk⟩
   |exit id=>exact hz _ hk
   |ret=>exact hz _ hk
  ·rintro a w ⟨F,H,I,ρ,_,ae⟩
   simp[b1p]at ae
 |scope b ih=>
  refine⟨?_,λ_ _ h=>by cases h⟩;intro aB R cur aM k r Q hQ F H I ρ a w ak ae;refine a8z (ih.1 aB aM.scope ?_ ak ae);intro x F H I ρ a w hn hk;cases x with
  |normal=>exact hQ .normal F H I ρ a w hn hk
  |exit id=>exact hQ (.exit id) F H I ρ a w hn hk
  |ret=>exact hQ .ret F H I ρ a w hn hk
 |rangeFunc f ps as b=>
  refine⟨λ_ R cur aM k r Q hQ F H I ρ a w ak ae=>?_,λ_ _ h=>by cases h⟩;cases ro with
  |none=>exact e7b ok ai aM hQ ak ae
  |some l=>have:=aM.1 rfl;simp[b4n]at this
 |goto l=>exact⟨λ_ R cur aM k r Q hQ F H I ρ a w ak ae=>by simp[a40]at ae,λ_ _ h=>by cases h⟩
 |refuse s=>exact⟨λ_ R cur aM k r Q hQ F H I ρ a w ak ae=>by simp[a40]at ae,λ_ _ h=>by cases h⟩
theorem b7y(ok:EnvOk E){call:FuncId→List AV→a03→Option (AV×a03)}(ai:a3v E call){fid:Nat}{ro:Option Nat}{e:Entry}{N lf:Nat}{keep:Nat→List Nat}{R:Type}(c:Code)(hd:a83 c=true)
 {cur:Nat}(aM:RFOk E fid N keep ro cur c){k:AExit→Frm→a03→Option R}{r:R}{Q:Exit→Act→World→Prop}(hQ:∀x F H I ρ a w,Now E e N F H I ρ a w→k x F H=some r→Q x.conv a w)
 {F:Frm}{H:a03}{I:Nat→Prop}{ρ:PMap}{a:Act}{w:World}(ak:Now E e N F H I ρ a w)(ae:a40 E e.m N keep call lf cur c F H k=some r):c.wpIn (wf ro) 0 E.P Q a w:=
 (d4n ok ai c).1 hd aM hQ ak ae
/-! ### a round -/
theorem c3t{I:Nat→Prop}{w:World}{ρ:PMap}{N:Nat}:∀{ps:List Nat} {vs:List AV} {cs:List Value} {F:Frm} {t:Array Value},FRel I w ρ N F t→VRels I w ρ vs cs→vs.length=ps.length→(∀p∈ps,p<N)→
 FRel I w ρ N (c12 F ps vs) ((ps.zip cs).foldl (λt (p,c)=>t.setIfInBounds p c) t)
 | [],[],cs,F,t,hF,h,_,_=>by simp only[VRels]at h;subst h;simpa[c12]using hF
 | [],_::_,_,_,_,_,_,h,_=>by simp at h
 |_::_,[],_,_,_,_,_,h,_=>by simp at h
 |p::ps,v::vs,cs,F,t,hF,h,hl,hp=>by simp only[VRels]at h;obtain⟨c,aI,rfl,h1,h2⟩:=h;simp only[c12,List.zip_cons_cons,List.foldl_cons];have:=FRel.set (a:={ tmps:=t,defers:=[] }) (d:=some p) hF (λs hs=>by cases hs;exact hp p (by simp)) h1;exact c3t this h2 (by simpa using hl) (λq hq=>hp q (by simp[hq]))
def e4i(E:Env):Prop:=∀y ri,E.G.rnd y=some ri→a83 ri.asg=true∧a83 ri.body=true∧b4n ri.asg=true∧b4n ri.body=true
theorem c16(ok:EnvOk E)(pL:e4i E){call:FuncId→List AV→a03→Option (AV×a03)}(ai:a3v E call)(lf:Nat):b08 E yId (a8e E call lf):=by
 intro args H v H' ae I K ρ w am rel hn ha;rw[e0e];unfold a8e at ae;split at ae
 case h_2=>cases ae
 rename_i b vs;split at ae
 case h_2=>cases ae
 rename_i y F hb;split at ae
 case h_2=>cases ae
 rename_i ri kv;rw[cond_eq_ite]at ae;split at ae
 case isFalse=>cases ae
 rename_i hc;simp only[e7h,f4h,e9r,e9o]at hc;obtain⟨al,iN⟩:=hc;simp only[VRels]at ha;obtain⟨c0,pn,rfl,h0,eD⟩:=ha;simp only[VRel]at h0;obtain⟨m,hm,rfl⟩:=h0;obtain⟨m',aX,dy,fA,uw,r,g0,g1,g2,g3,g4,g5,g6,g7⟩:=rel.live b _ hb;obtain rfl:m=m':=z9o (hm.symm.trans aX);rw[kv]at g0;cases g0;obtain⟨d1,d2,d3,d4⟩:=pL y ri kv;have bF:pn.toArray.size=r.params.size:=by have:=VRels.length eD;rw[←e9n (xs:=r.params),g3];simp;omega
 refine⟨m.blk,pn,r.fn,_,r.assign,r.body,rfl,run_yield g1 bF,roundIn_of_wpIn (F:=Fence.wide) trivial ?_⟩;rw[g4]
 let e:Entry:=⟨I,K,ρ,H.length,w⟩
 have qC:b<H.length:=b7i hb;have qj:FRel I w ρ ri.N (c12 F ri.ps vs) ((r.params.zip pn.toArray).foldl (λtmps (t,a)=>tmps.setIfInBounds t a) r.tmps):=by
  have h1:FRel I w ρ ri.N F r.tmps:=⟨g2,λs=>by have:=g6 s;rwa [b2j]at this⟩
  have:=c3t (ps:=ri.ps) h1 eD al iN;rw[←g3]at this⊢;rw[←Array.foldl_toList,Array.toList_zip];exact this
 have ak:Now E e ri.N (c12 F ri.ps vs) H I ρ { tmps:=(r.params.zip pn.toArray).foldl (λtmps (t,a)=>tmps.setIfInBounds t a) r.tmps,defers:=[] } w:=⟨λ_ h=>h,λ_ _=>rfl,Ext.refl _ _ _,rel,hn,qj,e9k _,Marks.nil⟩
 have rf:∀c,b4n c=true→RFOk E ri.fid ri.N (E.keep ri.fid) (some m.blk) 0 c:=λc h=>⟨λ_=>h,λx hx=>by rw[a63 c 0 h]at hx;cases hx⟩
 refine b7y (e:=e) (ro:=some m.blk) ok ai ri.asg d1 (rf _ d3) ?_ ak ae;intro x F1 H1 I1 ρ1 a1 w1 bf hk
 -- the record,wherever the run has come to
 have kc:∀{F1 H1 I1 ρ1 a1 w1 y1 F0 st},Now E e ri.N F1 H1 I1 ρ1 a1 w1→a02 H1 b=some (.yloop y1 F0 st)→ρ1 b=some m∧∃r1:Loop,w1.heap[m.blk]?=some (.loop r1)∧(st = .ready→r1.state = .ready):=by
  intro F1 H1 I1 ρ1 a1 w1 y1 F0 st bf cG;have bR:ρ1 b=some m:=by rw[bf.map b qC];exact hm
  obtain⟨m1,q1,_,_,_,r1,_,q2,_,_,_,_,_,q3⟩:=bf.rel.live b _ cG;obtain rfl:m=m1:=z9o (bR.symm.trans q1);exact⟨bR,r1,q2,λe=>by subst e;exact q3.1⟩
 cases x with
 |exit id=>cases hk
 |ret=>cases hk
 |normal=>
  dsimp only at hk;split at hk
  case h_2=>cases hk
  rename_i ut kW;obtain⟨y1,F0,cG,rfl⟩:=b8k kW;obtain⟨bR,r1,dV,gq⟩:=kc bf cG;have cZ:=bf.yput (new:=.busy) (r':={ r1 with state:=.busy }) cG bR dV ⟨rfl,rfl,rfl,rfl⟩ rfl;refine⟨_,run_beginRound dV (gq rfl),?_⟩;rw[g5];refine b7y (e:=e) (ro:=some m.blk) ok ai ri.body d2 (rf _ d4) ?_ cZ hk;intro x F3 H3 I3 ρ3 a3 w3 ml hk;have fin:∀(new:YSt) (bb:Bool) (jump:Option Code),jump.isNone=bb→(d6y H3 b .busy new).map (.bool bb,·)=some (v,H')→(match new with
   |.ready=>jump=none
   |.busy=>False
   |.done j=>jump=some (c3e j))→
   ∃v1 w4,(Instr.endRound m.blk jump).run E.P w3 = .ok v1 w4∧∃c I' ρ',Ending.returned v1 = .returned c∧Ret E I K ρ H.length w I' ρ' H' w4∧VRel I' w4 ρ' v c:=by
   intro new bb jump hj hk aS;obtain⟨H4,kW,he⟩:=a07 hk;cases he;obtain⟨y3,F4,o5,rfl⟩:=b8k kW;obtain⟨fP,r3,mf,_⟩:=kc ml o5;have kA:=ml.yput (new:=new) (r':={ r3 with state:=if jump.isNone then .ready else .done,pending:=jump }) o5 fP mf ⟨rfl,rfl,rfl,rfl⟩ (by
    cases new with
    |ready=>dsimp only at aS⊢;subst aS;exact⟨rfl,rfl⟩
    |busy=>exact aS.elim
    |done j=>dsimp only at aS⊢;subst aS;exact⟨rfl,rfl⟩)
   exact⟨_,_,run_endRound jump mf,_,I3,ρ3,rfl,⟨kA.imm,kA.map,kA.ext,kA.rel,kA.nrel,kA.low⟩,by simp only[VRel];rw[hj]⟩
  cases x with
  |normal=>exact fin .ready true none rfl hk rfl
  |ret=>exact fin (.done none) false (some .ret) rfl hk rfl
  |exit id=>exact fin (.done (some id)) false (some (.exit id)) rfl hk rfl
end
end Go.Ax
/- AxFun: functions. -/
namespace Go.Ax
section
variable {E:Env}{I K:Nat→Prop}{ρ:PMap}{h:FHeap}{w:World}
theorem d1f(ok:EnvOk E)(r:HRel E.G I K ρ h w){t:TypeId}{p v:AV}{c:Value}(hl:a60 E h t p=some v)(hp:VRel I w ρ p c) :
 ∃a d,c = .pointer (some a)∧(loadVar t a).run E.P w = .ok d w∧VRel I w ρ v d:=by
 cases p with
 |ptr b i o=>
  simp only[a60]at hl;cases hb:h b with
  |none=>simp[hb]at hl
  |some ob=>
   cases ob with
   |row k aa=>
    simp only[hb]at hl;cases hr:aa[i]? with
    |none=>simp[hr]at hl
    |some rw'=>
     simp only[hr]at hl;obtain⟨m,hm,_,_,ho⟩:=r.live b _ hb;obtain⟨hk,hk0,_,az⟩:=ho;obtain⟨al,br⟩:=VRows.get i az hr;simp only[VRel]at hp;obtain⟨m',aX,rfl⟩:=hp;obtain rfl:m=m':=z9o (hm.symm.trans aX);by_cases bF:o≤rw'.length
     ·have jf:VAt I w ρ ((rw'.drop o).take (E.sz t)) m.blk (m.off+i*m.k+o):=by
       rw[hk];exact VAt.take _ (VAt.drop o bF br)
      obtain⟨c,hc,hv⟩:=a6w ok hl jf;exact⟨_,c,rfl,hc,hv⟩
     ·have:rw'.drop o=[]:=f3s (by omega);rw[this]at hl;unfold a2c at hl;simp only[List.take_nil,e8c]at hl;rw[cond_eq_ite]at hl;split at hl
      ·rename_i h0;cases hd:E.und t with
       |none=>simp[hd]at hl
       |some d=>
        simp only[hd]at hl;have h0:E.sz t=0:=(show 0=E.sz t by simpa using h0).symm;cases dA:a26 d with
        |true=>simp[dA]at hl;subst hl;refine⟨_,.agg #[],rfl,?_,by simp only[VRel];exact⟨#[],rfl,by simp[VRels]⟩⟩;simp[loadVar,b2l ok w hd,dA,a31 ok w hd,h0,loadCells,loadCellsFrom]
        |false=>simp[dA]at hl
      ·cases hl
   |map ks vs bs cl=>simp[hb]at hl
   |siter s pos=>simp[hb]at hl
   |uset ks=>simp[hb]at hl
   |miter ks cP dj=>simp[hb]at hl
   |yloop y Fy st=>simp[hb]at hl
 |iptr cs=>simp only[a60]at hl;simp only[VRel]at hp;obtain⟨b,off,rfl,hI,br⟩:=hp;obtain⟨c,hc,hv⟩:=a6w ok hl (VAt.take _ br);exact⟨_,c,rfl,hc,VRel.noRef_any hv⟩
 |_=>simp[a60]at hl
def e4z(tmps:Array Value):ResultVar→Sem Value:=fun
 |.tmp t=>pure (tmps.getD t undef)
 |.cell a t=>do loadVar t (←asAddr (tmps.getD a undef))
theorem a9h(ok:EnvOk E){H:a03}{F:Frm}{tmps:Array Value}(r:HRel E.G I K ρ (a02 H) w)(hF:∀s,VRel I w ρ (a33 F s) (tmps.getD s undef)) :
 ∀(rs:List ResultVar) {vs:List AV},a17 E F H rs=some vs→∃cs:List Value,(rs.mapM (e4z tmps)).run E.P w = .ok cs w∧VRels I w ρ vs cs
 | [],vs,ha=>by simp only[a17,Option.some.injEq]at ha;subst ha;exact⟨[],by simp,by simp[VRels]⟩
 |.tmp t::rs,vs,ha=>by
  unfold a17 at ha;split at ha
  case h_2=>cases ha
  rename_i ee h1;cases ha;obtain⟨cs,h2,h3⟩:=a9h ok r hF rs h1;refine⟨tmps.getD t undef::cs,?_,by simp only[VRels];exact⟨_,_,rfl,hF t,h3⟩⟩;simp only[List.mapM_cons,e4z,Sem.run_bind,Sem.run_pure,Result.andThen_ok,h2]
 |.cell a t::rs,vs,ha=>by
  unfold a17 at ha;split at ha
  case h_2=>cases ha
  rename_i v ee h0 h1;cases ha;obtain⟨cs,h2,h3⟩:=a9h ok r hF rs h1;obtain⟨ad,d,h4,h5,h6⟩:=d1f ok r h0 (hF a);refine⟨d::cs,?_,by simp only[VRels];exact⟨_,_,rfl,h6,h3⟩⟩;simp only[List.mapM_cons,e4z,h4,asAddr,Sem.run_bind,Sem.run_pure,Result.andThen_ok,h2,h5]
theorem c4z(ok:EnvOk E){fn:Func}{H:a03}{F:Frm}{tmps:Array Value}(r:HRel E.G I K ρ (a02 H) w)(hF:∀s,VRel I w ρ (a33 F s) (tmps.getD s undef)){vs:List AV}(ha:a17 E F H fn.results.toList=some vs) :
 ∃c,(results fn tmps).run E.P w = .ok c w∧VRel I w ρ (a7i vs) c:=by
 obtain⟨cs,h1,h2⟩:=a9h ok r hF _ ha;have ae:(results fn tmps).run E.P w = .ok (if h:cs.toArray.size=1 then cs.toArray[0]else .tuple cs.toArray) w:=by have:results fn tmps=(do let vs←fn.results.mapM (e4z tmps);pure (if h:vs.size=1 then vs[0]else .tuple vs)):=rfl;rw[this,Array.mapM_eq_mapM_toList];simp only[bind_map_left,Sem.run_bind,h1,Result.andThen_ok,Sem.run_pure]
 refine⟨_,ae,?_⟩
 match vs,cs,h2 with
 | [],cs,h2=>simp only[VRels]at h2;subst h2;simp only[a7i,VRel];exact⟨#[],by simp,by simp[VRels]⟩
 | [v],cs,h2=>simp only[VRels]at h2;obtain⟨c,aI,rfl,h3,rfl⟩:=h2;simpa[a7i]using h3
 |v::v'::vs,cs,h2=>have fw:=h2;simp only[VRels]at h2;obtain⟨c,_,rfl,_,c',aI,rfl,_,_⟩:=h2;simp only[a7i,VRel];exact⟨_,by simp,fw⟩
theorem b65:∀(args:List AV) (i s:Nat),a33 (a4i i args) s=if i≤s then(args[s-i]?).getD .junk else .junk
 | [],i,s=>by simp[a4i,a33]
 |v::vs,i,s=>by
  simp only[a4i,a33,d1q,b65 vs (i+1) s];by_cases h:i=s
  ·subst h;simp
  ·rw[f0q.2 h];by_cases h1:i<s
   ·simp only[e9q];rw[e8j (by omega),e8j (by omega),show s-i=(s-(i+1))+1 by omega,f00]
   ·simp only[e9q];rw[e8g (by omega),e8g (by omega)]
theorem d0j{args:List AV}{am:List Value}{n:Nat}(hn:args.length≤n)(h:VRels I w ρ args am):FRel I w ρ n (a4i 0 args) (am.toArray++Array.replicate (n-am.toArray.size) undef):=by
 have al:=VRels.length h;refine⟨by simp;omega,λs=>?_⟩;rw[b65];simp only[e8e,f1a,Nat.sub_zero];cases hs:args[s]? with
 |none=>simp[VRel]
 |some v=>have dC:=(e7k.1 hs).1;obtain⟨c,hc,hv⟩:=VRels.get s h hs;simp only[e9x,e9u];rw[Array.getElem?_append_left (by simp;omega)];simp only[f1c,hc,e9x];exact hv
theorem d6b{m:Nat}{v v':AV}{c:Value}{H:a03}(dT:a3e m true (a4e (a02 H) m 12) v=some v')(hm:m≤H.length)(r:HRel E.G I K ρ (a02 H) w)(hn:NRel ρ H.length)(hv:VRel I w ρ v c) :
 ∃I' ρ',(∀c,I c→I' c)∧(∀b,b<m→ρ' b=ρ b)∧HRel E.G I' K ρ' (a02 ((H.take m).map (Option.map (a0e (a1e m))))) w∧NRel ρ' ((H.take m).map (Option.map (a0e (a1e m)))).length∧m≤((H.take m).map (Option.map (a0e (a1e m)))).length∧VRel I' w ρ' v' c:=by
 have al:((H.take m).map (Option.map (a0e (a1e m)))).length=m:=by simp;omega
 obtain⟨h1,h2⟩:=a9r (h':=a02 ((H.take m).map (Option.map (a0e (a1e m))))) r dT hv (by
  intro b o' hb;simp only[a02,e8a,f0v]at hb;split at hb
  case isFalse=>simp at hb
  rename_i aj;cases hx:H[b]? with
  |none=>rw[hx]at hb;simp at hb
  |some ob=>rw[hx]at hb;simp only[e8d,f2f]at hb;obtain⟨o,rfl,rfl⟩:=a07 hb;exact⟨o,aj,by simp[a02,hx],rfl⟩)
 refine⟨_,_,λ_ h=>.inl h,λb hb=>by simp[PMap.below,hb],h1,?_,by rw[al];exact e9k _,h2⟩;intro b hb;rw[al]at hb;simp only[PMap.below];rw[e8g (by omega)]
theorem d8c{m:Nat}{v v':AV}{c:Value}{H H':a03}(hf:d8d m v H=some (v',H'))(hm:m≤H.length)(r:HRel E.G I K ρ (a02 H) w)(hn:NRel ρ H.length)(hv:VRel I w ρ v c) :
 ∃I' ρ',(∀c,I c→I' c)∧(∀b,b<m→ρ' b=ρ b)∧HRel E.G I' K ρ' (a02 H') w∧NRel ρ' H'.length∧m≤H'.length∧VRel I' w ρ' v' c:=by
 unfold d8d at hf;split at hf
 case h_2=>cases hf;exact⟨I,ρ,λ_ h=>h,λ_ _=>rfl,r,hn,hm,hv⟩
 case h_3=>cases hf;exact⟨I,ρ,λ_ h=>h,λ_ _=>rfl,r,hn,hm,hv⟩
 case h_4=>cases hf;exact⟨I,ρ,λ_ h=>h,λ_ _=>rfl,r,hn,hm,hv⟩
 case h_5=>cases hf;exact⟨I,ρ,λ_ h=>h,λ_ _=>rfl,r,hn,hm,hv⟩
 case h_6=>cases hf;exact⟨I,ρ,λ_ h=>h,λ_ _=>rfl,r,hn,hm,hv⟩
 case h_7=>cases hf;obtain⟨I',ρ',f⟩:=d6b (v:=.nilslice) (v':=.nilslice) rfl hm r hn hv;exact⟨I',ρ',f⟩
 case h_8=>cases hf
 rename_i b i o;rw[cond_eq_ite]at hf;split at hf
 case isFalse=>cases hf
 rename_i oW;rw[f1h]at oW;split at hf
 case h_2=>cases hf
 rename_i k aa hb;split at hf
 case h_2=>cases hf
 rename_i be dT;cases hf;simp only[VRel]at hv;obtain⟨p,hp,rfl⟩:=hv;obtain⟨p',gd,dy,fA,hk,hk0,⟨bQ,e,mz,oe,od⟩,az⟩:=r.live b _ hb;obtain rfl:p=p':=z9o (hp.symm.trans gd);have oL:∀x,a3r (a02 H) b x=if x=b then none else a02 H x:=by
  intro x;unfold a3r;by_cases h:x=b
  ·subst h;rw[e8j rfl,show Nat.beq x x=true from Nat.beq_refl x];rfl
  ·rw[e8g h,show Nat.beq x b=false from by
    cases hq:Nat.beq x b with
    |false=>rfl
    |true=>exact absurd (f1j hq) h]
   rfl
 have r0:HRel E.G I K ρ (a3r (a02 H) b) w:=r.fewer (λx ob hx=>by
  rw[oL]at hx;split at hx
  ·cases hx
  ·exact hx)
 have al:((H.take m).map (Option.map (a0e (a1e m)))).length=m:=by simp;omega
 have cL:∀x o',a02 ((H.take m).map (Option.map (a0e (a1e m)))) x=some o'→∃o,x<m∧a3r (a02 H) b x=some o∧o'=a0e (a1e m) o:=by
  intro x o' hx;simp only[a02,e8a,f0v]at hx;split at hx
  case isFalse=>simp at hx
  rename_i aj;cases hxx:H[x]? with
  |none=>rw[hxx]at hx;simp at hx
  |some ob=>rw[hxx]at hx;simp only[e8d,f2f]at hx;obtain⟨o,rfl,rfl⟩:=a07 hx;exact⟨o,aj,by rw[oL,e8g (by omega)];simp[a02,hxx],rfl⟩
 have h1:=(a9r (h':=a02 ((H.take m).map (Option.map (a0e (a1e m))))) r0 (v:=.junk) (v':=.junk) (c:=.nilFunc) (n:=12) (m:=m) rfl (by simp[VRel]) cL).1;have pV:¬a3h I ρ (a3r (a02 H) b) m p.blk:=by
  rintro(hc|⟨b',o',q,aW,d5,hq,he⟩)
  ·exact dy hc
  ·rw[oL]at d5;split at d5
   ·cases d5
   ·rename_i aw;exact aw (r.inj b' b q p (by simp[d5]) (by simp[hb]) hq hp he)
 have hI:∀c,I c→a3h I ρ (a3r (a02 H) b) m c:=λc hc=>.inl hc;have eo:=c21 hI (a5h r0 12) aa dT az
 let ρ':PMap:=λx=>if x=m then some p else ρ.below m true x
 have hρ:∀x q,ρ.below m true x=some q→ρ' x=some q:=by
  intro x q hx;have aj:x<m:=by
   simp only[PMap.below]at hx;split at hx
   ·rename_i h;exact h.2
   ·cases hx
  show(if x=m then some p else ρ.below m true x)=some q;rw[e8g (by omega)];exact hx
 have sD:∀x,a02 ((H.take m).map (Option.map (a0e (a1e m)))++[some (.row k be)]) x=if x=m then some (.row k be)else a02 ((H.take m).map (Option.map (a0e (a1e m)))) x:=by
  intro x;unfold a02;by_cases hx:x<m
  ·rw[e8f (by rw[al];exact hx),e8g (by omega)]
  ·rw[e8h (by rw[al];omega),al];by_cases dN:x=m
   ·subst dN;rw[e8j rfl,Nat.sub_self];rfl
   ·rw[e8g dN];have e1:([some (AObj.row k be)]:a03)[x-m]?=none:=e8m (by simp;omega);have e2:((H.take m).map (Option.map (a0e (a1e m))))[x]?=none:=e8m (by rw[al];omega);rw[e1,e2]
 refine⟨a3h I ρ (a3r (a02 H) b) m,ρ',hI,?_,?_,?_,?_,?_⟩
 ·intro x hx;show(if x=m then some p else ρ.below m true x)=ρ x;rw[e8g (by omega)];simp[PMap.below,hx]
 ·refine⟨?_,?_,?_,h1.imm,h1.kept,h1.apart,?_⟩
  ·intro x ob hx;rw[sD]at hx;split at hx
   ·rename_i dN;cases hx;refine⟨p,by show(if x=m then some p else _)=some p;rw[e8j dN],pV,fA,hk,hk0,⟨bQ,e,mz,oe,by rw[a98 dT];exact od⟩,?_⟩;exact VRows.mono (λ_ h=>h) (λ_ _=>rfl) be hρ rfl eo
   ·obtain⟨q,hq,h3,h4,h5⟩:=h1.live x ob hx;exact⟨q,hρ x q hq,h3,h4,ORel.mono ob (λ_ h=>h) (λ_ _=>rfl) hρ rfl h5⟩
  ·intro x y q q' hx hy rE pM he;rw[sD]at hx hy;have low:∀z q,z≠m→(a02 ((H.take m).map (Option.map (a0e (a1e m)))) z).isSome→ρ' z=some q→ρ.below m true z=some q∧z<m∧ρ z=some q∧(a02 H z).isSome:=by
    intro z q hz hs hq;have ii:ρ.below m true z=some q:=by have:(if z=m then some p else ρ.below m true z)=some q:=hq;rw[e8g hz]at this;exact this
    obtain⟨ob,ho⟩:=e7n.1 hs;obtain⟨o1,aj,eg,_⟩:=cL z ob ho;rw[oL,e8g (by omega)]at eg;refine⟨ii,aj,?_,by rw[eg];rfl⟩;simp only[PMap.below]at ii;rw[e8j ⟨trivial,aj⟩]at ii;exact ii
   by_cases dN:x=m
   ·by_cases kX:y=m
    ·rw[dN,kX]
    ·exfalso;rw[e8g kX]at hy;obtain⟨_,h4,h5,h6⟩:=low y q' kX hy pM;have pN:q=p:=by
      have:(if x=m then some p else ρ.below m true x)=some q:=rE;rw[e8j dN]at this;exact(z9o this).symm
     subst pN;have:=r.inj b y q q' (by simp[hb]) h6 hp h5 he;omega
   ·rw[e8g dN]at hx;obtain⟨h3,h4,h5,h6⟩:=low x q dN hx rE;by_cases kX:y=m
    ·exfalso;have pN:q'=p:=by
      have:(if y=m then some p else ρ.below m true y)=some q':=pM;rw[e8j kX]at this;exact(z9o this).symm
     subst pN;have:=r.inj x b q q' h6 (by simp[hb]) h5 hp he;omega
    ·rw[e8g kX]at hy;obtain⟨g3,_⟩:=low y q' kX hy pM;exact h1.inj x y q q' hx hy h3 g3 he
  ·intro x q hx;have:(if x=m then some p else ρ.below m true x)=some q:=hx;split at this
   ·cases this;exact r.dom b p hp
   ·exact h1.dom x q this
  ·intro g cs hg;exact h1.glob g cs hg
 ·intro x hx;rw[e8i,al]at hx;simp only[e7g,e8c]at hx;show(if x=m then some p else ρ.below m true x)=none;rw[e8g (by omega)];simp only[PMap.below];rw[e8g (by omega)]
 ·rw[e8i,al];omega
 ·simp only[VRel];exact⟨p,by show(if m=m then some p else _)=some p;rw[e8j rfl],rfl⟩
theorem d09{thaw:Bool}{m:Nat}{v v':AV}{c:Value}{H H':a03}(hf:a1l thaw m v H=some (v',H'))(hm:m≤H.length)(r:HRel E.G I K ρ (a02 H) w)(hn:NRel ρ H.length)(hv:VRel I w ρ v c) :
 ∃I' ρ',(∀c,I c→I' c)∧(∀b,b<m→ρ' b=ρ b)∧HRel E.G I' K ρ' (a02 H') w∧NRel ρ' H'.length∧m≤H'.length∧VRel I' w ρ' v' c:=by
 unfold a1l at hf;rw[cond_eq_ite]at hf;split at hf
 ·rw[cond_eq_ite]at hf;split at hf
  ·exact d8c hf hm r hn hv
  ·cases hf;exact⟨I,ρ,λ_ h=>h,λ_ _=>rfl,r,hn,hm,hv⟩
 ·split at hf
  case h_2=>cases hf;exact⟨I,ρ,λ_ h=>h,λ_ _=>rfl,r,hn,hm,hv⟩
  rename_i v1 dT;cases hf;exact d6b dT hm r hn hv
end
structure DrOk(E:Env):Prop where
 draws:∀f i,E.fn f=some i→a83 i.code=true
 rf:∀f i,E.fn f=some i→∀x∈rfs i.ntmps f 0 i.code,∃y,yOf (E.keep f x.1)=some y∧E.G.rnd y=some x.2
 rnd:e4i E
 prim:∀f args v H1,E.prim f args=some (v,H1)→b08 E f λa H=>match a,H with
  |a,[]=>E.prim f a
  |_,_=>none
theorem DrOk.code{E:Env}(h:DrOk E){f:FuncId}{i:FInfo}(hi:E.fn f=some i):RFOk E f i.ntmps (E.keep f) none 0 i.code:=⟨λh=>by simp at h,h.rf f i hi⟩
def e8u(E:Env)(g:FuncId)(m:Nat)(rs:List ResultVar):AExit→Frm→a03→Option (AV×a03)
 |.exit _,_,_=>none
 |_,F,H=>match a17 E F H rs with
  |some vs=>a1l (E.thaw g) m (a7i vs) H
  |none=>none
theorem e3i{E:Env}(ok:EnvOk E){g:FuncId}{i:FInfo}(hi:E.fn g=some i){args:List AV}{H H':a03}{v:AV}(bl:Nat.ble args.length i.ntmps=true)
 {k:AExit→Frm→a03→Option (AV×a03)}(nL:∀x F1 H1 r,k x F1 H1=some r→e8u E g H.length i.results x F1 H1=some r)
 (nY:∀{e:Entry} {Q:Exit→Act→World→Prop},e.m=H.length→(∀x F1 H1 I ρ a w,Now E e i.ntmps F1 H1 I ρ a w→k x F1 H1=some (v,H')→Q x.conv a w)→
  ∀{I:Nat→Prop} {ρ:PMap} {a:Act} {w:World},Now E e i.ntmps (a4i 0 args) H I ρ a w→i.code.wpIn (wf none) 0 E.P Q a w)
 {I K:Nat→Prop}{ρ:PMap}{w:World}{am:List Value}(rel:HRel E.G I K ρ (a02 H) w)(hn:NRel ρ H.length)(ha:VRels I w ρ args am) :
 XOf E g am w λen w'=>∃c I' ρ',en = .returned c∧Ret E I K ρ H.length w I' ρ' H' w'∧VRel I' w' ρ' v c:=by
 obtain⟨fn,h1,h2,h3,h4,_⟩:=ok.fn g i hi;rw[b4k (c5v ok hi)];refine callsIn_wide.1 (callsIn_of_wp_marks (F:=Fence.wide) (n:=0) h1 h2 trivial ?_);rw[h3]
 let e:Entry:=⟨I,K,ρ,H.length,w⟩
 have ak:Now E e i.ntmps (a4i 0 args) H I ρ { tmps:=am.toArray++Array.replicate (i.ntmps-am.toArray.size) undef,defers:=[] } w:=⟨λ_ h=>h,λ_ _=>rfl,Ext.refl _ _ _,rel,hn,d0j (by simpa[f1h]using bl) ha,e9k _,Marks.nil⟩
 refine nY (e:=e) rfl ?_ ak;intro x F1 H1 I1 ρ1 a w1 bf hk;have hk:=nL _ _ _ _ hk;have fin:(match a17 E F1 H1 i.results with
  |some vs=>a1l (E.thaw g) H.length (a7i vs) H1
  |none=>none)=some (v,H')→LeavesInM Fence.wide 0 E.P fn a.tmps (λen w'=>∃c I' ρ',en = .returned c∧Ret E I K ρ H.length w I' ρ' H' w'∧VRel I' w' ρ' v c) a.defers .returning w1:=by
  intro hk;split at hk
  case h_2=>cases hk
  rename_i vs eD;rw[←h4]at eD;obtain⟨rs,q1,q2,q3⟩:=bf.marks;rw[q1];refine b1b rs w1 q2 (λr hr=>(q3 r hr).2.2) ?_;obtain⟨s1,s2,s3,s4,s5⟩:=b16 rs w1;have mL:HRel E.G I1 K ρ1 (a02 H1) (a2p rs w1):=HRel.shut bf.rel (S:=(·∈rs)) (λc hc=>⟨(q3 c hc).1,_,(q3 c hc).2.2⟩) s1 s5;have hD:∀c,SameD w1 (a2p rs w1) c:=by
   intro c;by_cases hc:c∈rs
   ·exact .inr ⟨_,(q3 c hc).2.2⟩
   ·exact .inl (s5 c hc)
  have qV:∀s,VRel I1 (a2p rs w1) ρ1 (a33 F1 s) (a.tmps.getD s undef):=λs=>VRel.monoD (λc _=>hD c) _ (bf.frm.2 s);have qW:Ext I K w (a2p rs w1):=by refine⟨by rw[s3];exact bf.ext.os,by rw[s2];exact bf.ext.tape,by rw[s4];exact bf.ext.output,by rw[s1];exact bf.ext.size,λc hc=>?_⟩;have aj:c<w.heap.size:=hc.elim (rel.imm c) (rel.kept c);rw[s5 c (λhm=>by have h:w.heap.size≤c:=(q3 c hm).2.1;omega)];exact bf.ext.keep c hc
  obtain⟨c,hr,hv⟩:=c4z ok mL qV eD;obtain⟨I2,ρ2,f1,f2,f3,f4,f5,f6⟩:=d09 hk bf.low mL bf.nrel hv;exact⟨c,hr,c,I2,ρ2,rfl,⟨λc hc=>f1 c (bf.imm c hc),λb hb=>by rw[f2 b hb];exact bf.map b hb,qW,f3,f4,f5⟩,f6⟩
 cases x with
 |normal=>exact fin hk
 |exit id=>cases hk
 |ret=>exact fin hk
end Go.Ax
/- AxLive: which slots are read from a loop's head on. Definitions only: nothing rests on them. -/
namespace Go.Ax
def e2a:List (Nat×List Nat)→Nat→List Nat
 | [],_=>[]
 |(i,l)::r,j=>bif Nat.beq i j then l else e2a r j
end Go.Ax
/- AxInst: the tables of the evaluator, read off a program. -/
namespace Go.Ax
/-! ### tables that are searched -/
inductive Tab(α:Type) where
 |nil
 |node (l:Tab α)(k:Nat)(v:α)(r:Tab α)
def Tab.get{α:Type}:Tab α→Nat→Option α
 |.nil,_=>none
 |.node l k v r,i=>bif Nat.blt i k then l.get i else bif Nat.beq i k then some v else r.get i
def Tab.all{α:Type}(p:Nat→α→Bool):Tab α→Bool
 |.nil=>true
 |.node l k v r=>p k v&&l.all p&&r.all p
theorem Tab.all_get{α:Type}{p:Nat→α→Bool}:∀{t:Tab α} {i:Nat} {x:α},t.all p=true→t.get i=some x→p i x=true
 |.nil,i,x,_,h=>by simp[Tab.get]at h
 |.node l k v r,i,x,ha,h=>by
  simp only[Tab.all,e7h]at ha;simp only[Tab.get,cond_eq_ite]at h;split at h
  ·exact Tab.all_get ha.1.2 h
  ·split at h
   ·rename_i hk;have:i=k:=by simpa using hk
    cases h;subst this;exact ha.1.1
   ·exact Tab.all_get ha.2 h
def Tab.toList{α:Type}:Tab α→List α
 |.nil=>[]
 |.node l _ v r=>l.toList++v::r.toList
def Tab.from{α:Type}:Nat→Tab α→Option Nat
 |lo,.nil=>some lo
 |lo,.node l k _ r=>match l.from lo with
  |some n=>bif Nat.beq n k then r.from (k+1)else none
  |none=>none
theorem Tab.from_len{α:Type}:∀{t:Tab α} {lo n:Nat},t.from lo=some n→n=lo+t.toList.length
 |.nil,lo,n,h=>by simp only[Tab.from,Option.some.injEq]at h;simp[Tab.toList,h]
 |.node l k v r,lo,n,h=>by
  unfold Tab.from at h;split at h
  case h_2=>cases h
  rename_i m hm;rw[cond_eq_ite]at h;split at h
  case isFalse=>cases h
  rename_i hk;have hk:m=k:=by simpa using hk
  have h1:=Tab.from_len hm;have h2:=Tab.from_len h;simp[Tab.toList];omega
theorem Tab.get_from{α:Type}:∀{t:Tab α} {lo n i:Nat} {x:α},t.from lo=some n→t.get i=some x→lo≤i∧t.toList[i-lo]?=some x
 |.nil,lo,n,i,x,_,h=>by simp[Tab.get]at h
 |.node l k v r,lo,n,i,x,hf,h=>by
  unfold Tab.from at hf;split at hf
  case h_2=>cases hf
  rename_i m hm;rw[cond_eq_ite]at hf;split at hf
  case isFalse=>cases hf
  rename_i hk;have hk:m=k:=by simpa using hk
  subst hk;have hl:=Tab.from_len hm;simp only[Tab.get,cond_eq_ite]at h;split at h
  ·rename_i aj;obtain⟨h1,h2⟩:=Tab.get_from hm h;have aj:i<m:=by simpa[e9o]using aj
   refine⟨h1,?_⟩;simp only[Tab.toList];rw[e8f (by omega)];exact h2
  ·split at h
   ·rename_i hk;have:i=m:=by simpa using hk
    cases h;subst this;refine⟨by omega,?_⟩;simp only[Tab.toList];rw[e8h (by omega),show i-lo-l.toList.length=0 by omega];rfl
   ·obtain⟨h1,h2⟩:=Tab.get_from hf h;refine⟨by omega,?_⟩;simp only[Tab.toList];rw[e8h (by omega),show i-lo-l.toList.length=(i-(m+1))+1 by omega,f00];exact h2
/-! ### the tables of a program -/
def d5n(T:Tab TypeInfo)(t:TypeId):Option TypeDesc:=
 match T.get t with
 |some i=>match i.desc with
  |.named _ u=>match T.get u with
   |some j=>some j.desc
   |none=>none
  |d=>some d
 |none=>none
def d6x(T:Tab TypeInfo)(t:TypeId):Option (List AV):=
 match T.get t with
 |some i=>match i.zero with
  |some z=>bif (d5n T t).isSome&&Nat.beq z.cells.toList.length i.size then some (z.cells.toList.map a3n)else none
  |none=>none
 |none=>none
def e3q(P:Program)(T:Tab TypeInfo)(t:TypeId):Bool:=
 !(P.eqGuardType P.depth t) && !(P.stoodInHeld t)&&(match T.get t with|some i=>i.comparable|none=>false) &&
  (match d5n T t with|some (.struct fs)=>fs.toList.all (λf=>!(f.name == "_"))|_=>true)
def d5x(T:Tab TypeInfo)(t:Nat)(i:TypeInfo):Bool:=
 match d5n T t,i.zero with
 |some d,some (.agg _)=>a26 d
 |some d,some _=>!(a26 d)
 |_,_=>true
structure Laid where
 P:Program
 T:Tab TypeInfo
 F:Tab Func
 keep:Tab (List (Nat×List Nat))
 eqs:Tab Bool
 G:Nat→Option (List AV)
 thaw:Nat→Bool
 ro:Nat→Bool
 ext:Nat→Bool
 lend:Nat→Bool:=λ_=>false
 prim:Nat→List AV→Option (AV×a03):=λ_ _=>none
 zf:Nat→Bool:=λ_=>false
def Laid.rnd(L:Laid)(y:Nat):Option RInfo:=match L.F.get (y/100000)with
 |some fn=>match fn.body with
  |some c=>b39 (y%100000) (rfs fn.ntmps (y/100000) 0 c)
  |none=>none
 |none=>none
def c36(keep:Nat→List Nat)(f:Nat)(l:List (Nat×RInfo)):Bool:=a51 (l.map (·.1))&&l.all λx=>Nat.blt x.1 100000&&(match yOf (keep x.1)with|some y=>Nat.beq y (f*100000+x.1)|none=>false)&&a83 x.2.asg&&a83 x.2.body&&b4n x.2.asg&&b4n x.2.body
def Laid.env(L:Laid):Env:={
 P:=L.P
 und:=d5n L.T
 sz:=λt=>match L.T.get t with|some i=>i.size|none=>0
 bytes:=λt=>match L.T.get t with|some i=>i.bytes|none=>0
 zero:=d6x L.T
 eqok:=λt=>match L.eqs.get t with|some b=>b|none=>false
 G:=⟨L.G,L.rnd⟩
 fn:=λf=>match L.F.get f with
  |some fn=>match fn.body with
   |some c=>some ⟨c,fn.ntmps,fn.results.toList⟩
   |none=>none
  |none=>none
 keep:=λf=>match L.keep.get f with|some l=>e2a l|none=>λ_=>[]
 thaw:=L.thaw
 ro:=L.ro
 ext:=λf=>L.ext f||(L.lend f&&(match L.F.get f with|some fn=>fn.body.isSome|none=>false))
 prim:=L.prim
 zf:=L.zf }
structure LaidOk(L:Laid):Prop where
 types:∀i x,L.T.get i=some x→L.P.types[i]?=some x
 funcs:∀i x,L.F.get i=some x→L.P.funcs[i]?=some x
 shape:L.T.all (d5x L.T)=true
 names:L.F.all (λ_ fn=>!(fn.name == "runtime.NumGoroutine"))=true
 eqs:L.eqs.all (λt b=>!b||e3q L.P L.T t)=true
 ext:∀f,L.ext f=true→∃fn,L.P.funcs[f]?=some fn∧fn.body=none∧(fn.name == "runtime.NumGoroutine")=false∧Extern.findNext fn=none∧Extern.find fn=some Extern.BytealgIndexByte.indexByte
 mixed:L.P.follows .mixedOrders=true
 draws:L.F.all (λ_ fn=>match fn.body with|some c=>a83 c|none=>true)=true
 yid:(L.F.get yId).isNone=true
 rf:L.F.all (λf fn=>match fn.body with|some c=>c36 (L.env.keep f) f (rfs fn.ntmps f 0 c)|none=>true)=true
theorem b64{α:Type}{t:Tab α}{l:List α}{n:Nat}(h1:t.from 0=some n)(h2:t.toList=l):∀i x,t.get i=some x→l.toArray[i]?=some x:=by intro i x h;obtain⟨_,h3⟩:=Tab.get_from h1 h;rw[h2]at h3;simpa using h3
section
variable {L:Laid}(ok:LaidOk L)
include ok
theorem b0m{t:Nat}{i:TypeInfo}(h:L.T.get t=some i):L.P.info? t=some i:=by have h1:=ok.types t i h;have h2:=(f0n.1 h1).1;show(if t<L.P.types.size then L.P.types[t]? else _)=_;rw[e8j h2];exact h1
theorem d5m{t:Nat}{d:TypeDesc}(h:d5n L.T t=some d):L.P.underlying t=some d∧∃i,L.T.get t=some i:=by
 unfold d5n at h;split at h
 case h_2=>cases h
 rename_i i hi;refine⟨?_,i,hi⟩;have h1:=b0m ok hi;unfold Program.underlying;rw[h1];split at h
 ·rename_i nm u hd;split at h
  case h_2=>cases h
  rename_i j hj;cases h;have h2:=b0m ok hj;cases i;simp only at hd;subst hd;simp[h2]
 ·rename_i d' aw;cases h;cases i;rename_i dd _ _ _ _ _ _ _ _ _;cases dd<;>first|rfl|exact absurd rfl (aw _ _)
theorem LaidOk.envOk:EnvOk L.env:={
 und t d h:=by obtain⟨h1,i,hi⟩:=d5m ok h;exact⟨h1,i,b0m ok hi,by simp[Laid.env,hi],by simp[Laid.env,hi]⟩
 zero t cs h:=by
  have h:d6x L.T t=some cs:=h;unfold d6x at h;split at h
  case h_2=>cases h
  rename_i i hi;split at h
  case h_2=>cases h
  rename_i z hz;rw[cond_eq_ite]at h;split at h
  case isFalse=>cases h
  rename_i hc;simp only[e7h,f4h]at hc;cases h;refine⟨e7n.1 hc.1,i,z,b0m ok hi,hz,by simp[Laid.env,hi,hc.2],λI w=>a77 _⟩
 zshape t d i z hd hi hz:=by
  obtain⟨_,j,hj⟩:=d5m ok hd;have gT:=b0m ok hj;have:i=j:=z9o (hi.symm.trans gT);subst this;have hs:=Tab.all_get ok.shape hj;have hd:d5n L.T t=some d:=hd;simp only[d5x,hd,hz]at hs;cases z with
  |agg a=>simp only at hs;exact⟨λ_=>⟨a,rfl⟩,λh=>by rw[hs]at h;cases h⟩
  |_=>simp only[f0x]at hs;exact⟨λh=>(by rw[hs]at h;cases h),λ_=>rfl⟩
 eqok t h:=by
  have h:(match L.eqs.get t with|some b=>b|none=>false)=true:=h;split at h
  case h_2=>cases h
  rename_i b hb;subst h;have h:=Tab.all_get ok.eqs hb;simp only[f2n,Bool.false_or,e3q,e7h,f0x]at h;obtain⟨⟨⟨h1,h2⟩,h3⟩,h4⟩:=h;refine⟨h1,h2,?_,?_⟩
  ·split at h3
   ·rename_i i hi;exact⟨i,b0m ok hi,h3⟩
   ·cases h3
  ·intro fs jU f hf;have jU:d5n L.T t=some (.struct fs):=jU;rw[jU]at h4;simp only[e9r,f0x,f0q]at h4;exact h4 f hf
 fn f i h:=by
  have h:(match L.F.get f with
   |some fn=>match fn.body with
    |some c=>some (⟨c,fn.ntmps,fn.results.toList⟩:FInfo)
    |none=>none
   |none=>none)=some i:=h
  split at h
  case h_2=>cases h
  rename_i fn bC;split at h
  case h_2=>cases h
  rename_i c hc;cases h;have hn:=Tab.all_get ok.names bC;exact⟨fn,ok.funcs f fn bC,hc,rfl,rfl,by simpa using hn⟩
 ext f h bC:=by
  have h:(L.ext f||(L.lend f&&(match L.F.get f with|some fn=>fn.body.isSome|none=>false)))=true:=h;have bC:(match L.F.get f with
   |some fn=>match fn.body with
    |some c=>some (⟨c,fn.ntmps,fn.results.toList⟩:FInfo)
    |none=>none
   |none=>none).isSome=false:=bC
  rcases Bool.or_eq_true_iff.1 h with h|h
  ·exact ok.ext f h
  ·exfalso;have h:=(Bool.and_eq_true_iff.1 h).2;cases hx:L.F.get f with
   |none=>rw[hx]at h;cases h
   |some fn=>
    rw[hx]at h bC;cases hb:fn.body with
    |none=>simp[hb]at h
    |some c=>simp[hb]at bC
 mixed:=ok.mixed
 yid:=by
  have h:=ok.yid;show(match L.F.get yId with
   |some fn=>match fn.body with
    |some c=>some (⟨c,fn.ntmps,fn.results.toList⟩:FInfo)
    |none=>none
   |none=>none)=none
  cases hx:L.F.get yId with
  |none=>rfl
  |some fn=>rw[hx]at h;cases h}
omit ok in
theorem Laid.fn_inv{f:Nat}{i:FInfo}(h:L.env.fn f=some i):∃fn c,L.F.get f=some fn∧fn.body=some c∧i=⟨c,fn.ntmps,fn.results.toList⟩:=by
 have h:(match L.F.get f with
  |some fn=>match fn.body with
   |some c=>some (⟨c,fn.ntmps,fn.results.toList⟩:FInfo)
   |none=>none
  |none=>none)=some i:=h
 split at h
 case h_2=>cases h
 rename_i fn bC;split at h
 case h_2=>cases h
 rename_i c hc;cases h;exact⟨fn,c,bC,hc,rfl⟩
omit ok in
theorem b5v{cur:Nat}{ri:RInfo}:∀{l:List (Nat×RInfo)},b39 cur l=some ri→(cur,ri)∈l
 | [],h=>by simp[b39]at h
 |(c,r)::l,h=>by
  simp only[b39,cond_eq_ite]at h;split at h
  ·rename_i hc;have hc:=f1j hc;cases h;subst hc;simp
  ·exact f0w _ (b5v h)
omit ok in
theorem b9b{x:Nat×RInfo}:∀{l:List (Nat×RInfo)},(l.map (·.1)).Nodup→x∈l→b39 x.1 l=some x.2
 | [],_,h=>by cases h
 |(c,r)::l,hn,h=>by
  simp only[e12]at hn;have hn:=f2c.1 hn;simp only[b39,cond_eq_ite];rcases e9m.1 h with rfl|h
  ·simp
  ·have aw:c≠x.1:=λe=>hn.1 (by rw[e];exact f0z h);rw[e8g (by rw[f4h];exact aw)];exact b9b hn.2 h
theorem LaidOk.good{f:Nat}{fn:Func}{c:Code}(bC:L.F.get f=some fn)(hc:fn.body=some c):c36 (L.env.keep f) f (rfs fn.ntmps f 0 c)=true:=by have:=Tab.all_get ok.rf bC;simpa[hc]using this
def e4j(L:Laid):Prop:=∀f args v H1,L.prim f args=some (v,H1)→b08 L.env f λa H=>match a,H with
 |a,[]=>L.env.prim f a
 |_,_=>none
theorem LaidOk.drawnP(hP:e4j L):DrOk L.env:={
 prim:=hP
 draws f i h:=by obtain⟨fn,c,bC,hc,rfl⟩:=Laid.fn_inv h;have:=Tab.all_get ok.draws bC;simpa[hc]using this
 rf f i h x hx:=by
  obtain⟨fn,c,bC,hc,rfl⟩:=Laid.fn_inv h;have hg:=ok.good bC hc;simp only[c36,e7h,e9r]at hg;have fY:=hg.2 x hx;obtain⟨⟨⟨⟨⟨h1,h2⟩,_⟩,_⟩,_⟩,_⟩:=fY;split at h2
  case h_2=>cases h2
  rename_i y hy;have h2:=f1j h2;have h1:x.1<100000:=by simpa[e9o]using h1
  refine⟨y,hy,?_⟩;show L.rnd y=some x.2;have e1:y/100000=f:=by omega
  have e2:y%100000=x.1:=by omega
  unfold Laid.rnd;rw[e1,e2,bC];simp only[hc];exact b9b (a8l hg.1) hx
 rnd y ri h:=by
  have h:L.rnd y=some ri:=h;unfold Laid.rnd at h;split at h
  case h_2=>cases h
  rename_i fn bC;split at h
  case h_2=>cases h
  rename_i c hc;have hg:=ok.good bC hc;simp only[c36,e7h,e9r]at hg;have fY:=hg.2 _ (b5v h);exact⟨fY.1.1.1.2,fY.1.1.2,fY.1.2,fY.2⟩}
theorem LaidOk.drawn(hP:∀f args,L.prim f args=none:=by intros;rfl):DrOk L.env:=ok.drawnP λf args v H1 h=>by rw[hP]at h;cases h
end
end Go.Ax
/- AxZ0: a function whose own memory is frozen behind each of its outermost statements: the run of its body. -/
namespace Go.Ax
def e03(E:Env)(m0 N:Nat)(keep:Nat→List Nat)(call:FuncId→List AV→a03→Option (AV×a03))(lf:Nat){R:Type}:Nat→Code→Frm→a03→(AExit→Frm→a03→Option R)→Option R
 |cur,.seq a b,F,H,k=>e03 E m0 N keep call lf cur a F H λe F' H'=>match e with
  |.normal=>e03 E m0 N keep call lf cur b (c23 m0 H' F') (b3r m0 H') k
  |e=>k e F' H'
 |cur,c,F,H,k=>a40 E m0 N keep call lf cur c F H k
theorem d4o{E:Env}(ok:EnvOk E){call:FuncId→List AV→a03→Option (AV×a03)}(ai:a3v E call){fid:Nat}{e:Entry}{N lf:Nat}{keep:Nat→List Nat}{R:Type}:∀(c:Code),a83 c=true→
 ∀{cur:Nat},RFOk E fid N keep none cur c→∀{k:AExit→Frm→a03→Option R} {r:R} {Q:Exit→Act→World→Prop},(∀x F H I ρ a w,Now E e N F H I ρ a w→k x F H=some r→Q x.conv a w)→
 ∀{F:Frm} {H:a03} {I:Nat→Prop} {ρ:PMap} {a:Act} {w:World},Now E e N F H I ρ a w→e03 E e.m N keep call lf cur c F H k=some r→c.wpIn (wf none) 0 E.P Q a w:=by
 intro c
 induction c with
 |seq x y ihx ihy=>
  intro aB cur aM k r Q hQ F H I ρ a w ak ae;have aB:a30 false (.seq x y)=true:=aB;simp only[a30,e7h]at aB;refine wpIn_seq (ihx aB.1 aM.seq1 ?_ ak ae);intro x F H I ρ a w hn hk;cases x with
  |normal=>obtain⟨I',ρ',h'⟩:=hn.frz 0;exact ihy aB.2 aM.seq2 hQ h' hk
  |exit id=>exact hQ (.exit id) F H I ρ a w hn hk
  |ret=>exact hQ .ret F H I ρ a w hn hk
 |_=>intro aB cur aM k r Q hQ F H I ρ a w ak ae;exact b7y (ro:=none) ok ai _ aB aM hQ ak ae
def e6b(E:Env)(z:Bool)(m0 N:Nat)(keep:Nat→List Nat)(call:FuncId→List AV→a03→Option (AV×a03))(lf:Nat){R:Type}(cur:Nat)(c:Code)(F:Frm)(H:a03)(k:AExit→Frm→a03→Option R):Option R:=bif z then e03 E m0 N keep call lf cur c F H k else a40 E m0 N keep call lf cur c F H k
end Go.Ax
/- AxMemo: calls whose answer is known already. -/
namespace Go.Ax
def e19:List UInt8→List UInt8→Bool
 | [],[]=>true
 |a::r,b::s=>Nat.beq a.toNat b.toNat&&e19 r s
 |_,_=>false
theorem d0i:∀{a b:List UInt8},e19 a b=true→a=b
 | [],[],_=>rfl
 | [],_::_,h=>by simp[e19]at h
 |_::_,[],h=>by simp[e19]at h
 |a::r,b::s,h=>by simp only[e19,e7h,f4h]at h;rw[d0i h.2,UInt8.toNat_inj.1 h.1]
def eqO:Option Nat→Option Nat→Bool
 |none,none=>true
 |some a,some b=>Nat.beq a b
 |_,_=>false
theorem e3s{a b:Option Nat}(h:eqO a b=true):a=b:=by cases a<;>cases b<;>simp_all[eqO]
def eqI:Int→Int→Bool
 |.ofNat a,.ofNat b=>Nat.beq a b
 |.negSucc a,.negSucc b=>Nat.beq a b
 |_,_=>false
theorem e3t{a b:Int}(h:eqI a b=true):a=b:=by cases a<;>cases b<;>simp_all[eqI]
mutual
def eqV:AV→AV→Bool
 |.bool a,.bool b=>match a,b with|true,true=>true|false,false=>true|_,_=>false
 |.int k n,.int k' n'=>decide (k=k')&&eqI n n'
 |.str s,.str t=>e19 s t
 |.nilptr,.nilptr=>true
 |.nilslice,.nilslice=>true
 |.nilmap,.nilmap=>true
 |.nilfunc,.nilfunc=>true
 |.nilifc,.nilifc=>true
 |.iptr cs,.iptr ds=>eqL cs ds
 |.islice r c,.islice r' c'=>eqO c c'&&eqR r r'
 |.agg cs,.agg ds=>eqL cs ds
 |.tuple cs,.tuple ds=>eqL cs ds
 |.iset a,.iset b=>decide (a=b)
 |_,_=>false
def eqL:List AV→List AV→Bool
 | [],[]=>true
 |a::r,b::s=>eqV a b&&eqL r s
 |_,_=>false
def eqR:List (List AV)→List (List AV)→Bool
 | [],[]=>true
 |a::r,b::s=>eqL a b&&eqR r s
 |_,_=>false
end
mutual
theorem e3r:∀(a b:AV),eqV a b=true→a=b
 |.bool a,b,h=>by cases b<;>simp only[eqV]at h<;>first|(cases h;done)|(split at h<;>first|rfl|cases h)
 |.int k n,b,h=>by
  cases b<;>simp only[eqV]at h<;>first|(cases h;done)|skip
  simp only[e7h,e9j]at h;rw[h.1,e3t h.2]
 |.str s,b,h=>by cases b<;>simp only[eqV]at h<;>first|(cases h;done)|rw[d0i h]
 |.nilptr,b,h=>by cases b<;>simp only[eqV]at h<;>first|rfl|(cases h;done)
 |.nilslice,b,h=>by cases b<;>simp only[eqV]at h<;>first|rfl|(cases h;done)
 |.nilmap,b,h=>by cases b<;>simp only[eqV]at h<;>first|rfl|(cases h;done)
 |.nilfunc,b,h=>by cases b<;>simp only[eqV]at h<;>first|rfl|(cases h;done)
 |.nilifc,b,h=>by cases b<;>simp only[eqV]at h<;>first|rfl|(cases h;done)
 |.iptr cs,b,h=>by cases b<;>simp only[eqV]at h<;>first|(cases h;done)|rw[b6d _ _ h]
 |.islice r c,b,h=>by
  cases b<;>simp only[eqV]at h<;>first|(cases h;done)|skip
  simp only[e7h]at h;rw[e3s h.1,d6e _ _ h.2]
 |.agg cs,b,h=>by cases b<;>simp only[eqV]at h<;>first|(cases h;done)|rw[b6d _ _ h]
 |.tuple cs,b,h=>by cases b<;>simp only[eqV]at h<;>first|(cases h;done)|rw[b6d _ _ h]
 |.junk,b,h=>by simp[eqV]at h
 |.ptr ..,b,h=>by simp[eqV]at h
 |.slice ..,b,h=>by simp[eqV]at h
 |.map ..,b,h=>by simp[eqV]at h
 |.yfn ..,b,h=>by simp[eqV]at h
 |.imap ..,b,h=>by simp[eqV]at h
 |.iset a,b,h=>by cases b<;>simp only[eqV]at h<;>first|(cases h;done)|rw[of_decide_eq_true h]
 |.func ..,b,h=>by simp[eqV]at h
 |.iface ..,b,h=>by simp[eqV]at h
theorem b6d:∀(a b:List AV),eqL a b=true→a=b
 | [],b,h=>by cases b<;>simp[eqL]at h<;>rfl
 |x::r,b,h=>by
  cases b<;>simp only[eqL]at h
  ·cases h
  ·simp only[e7h]at h;rw[e3r _ _ h.1,b6d _ _ h.2]
theorem d6e:∀(a b:List (List AV)),eqR a b=true→a=b
 | [],b,h=>by cases b<;>simp[eqR]at h<;>rfl
 |x::r,b,h=>by
  cases b<;>simp only[eqR]at h
  ·cases h
  ·simp only[e7h]at h;rw[b6d _ _ h.1,d6e _ _ h.2]
end
structure Fact where
 g:Nat
 args:List AV
 v:AV
def d6u(E:Env)(x:Fact):Prop:=
 ∀(I K:Nat→Prop) (ρ:PMap) (w:World) (am:List Value),HRel E.G I K ρ (a02 []) w→NRel ρ 0→VRels I w ρ x.args am→
  XOf E x.g am w λen w'=>∃c I' ρ',en = .returned c∧Ret E I K ρ 0 w I' ρ' [] w'∧VRel I' w' ρ' x.v c
def e2b:List Fact→FuncId→List AV→Option AV
 | [],_,_=>none
 |x::r,g,args=>bif Nat.beq x.g g&&eqL x.args args then some x.v else e2b r g args
def e7u(M:List Fact)(call:FuncId→List AV→a03→Option (AV×a03))(g:FuncId)(args:List AV)(H:a03):Option (AV×a03):=
 match H with
 | []=>match e2b M g args with
  |some v=>some (v,[])
  |none=>call g args []
 |b::r=>call g args (b::r)
def d2t(E:Env)(f:FuncId)(args:List AV)(H:a03):Option (AV×a03):=match H with
 | []=>E.prim f args
 |_=>none
def b1o(E:Env)(call:FuncId→List AV→a03→Option (AV×a03))(lf:Nat)(f:FuncId)(args:List AV)(H:a03):Option (AV×a03):=
 match d2t E f args H with
 |some r=>some r
 |none=>match E.fn f with
 |none=>bif Nat.beq f yId then a8e E call lf args H else none
 |some i=>bif Nat.ble args.length i.ntmps then
  e6b E (E.zf f) H.length i.ntmps (E.keep f) call lf 0 i.code (a4i 0 args) H λe F' H'=>match e with
   |.exit _=>none
   |_=>match a17 E F' H' i.results with
    |some vs=>a1l (E.thaw f) H.length (a7i vs) H'
    |none=>none
  else none
def c8r(E:Env)(M:List Fact):Nat→FuncId→List AV→a03→Option (AV×a03)
 |0,_,_,_=>none
 |n+1,f,args,H=>e7u M (b1o E (c8r E M n) (n+1)) f args H
theorem d2l{E:Env}(ok:EnvOk E)(jz:DrOk E){call:FuncId→List AV→a03→Option (AV×a03)}(ai:a3v E call)(lf:Nat):a3v E (b1o E call lf):=by
 intro g args H v H' ae I K ρ w am rel hn ha;unfold b1o at ae;split at ae
 ·rename_i r hp;cases ae;unfold d2t at hp;split at hp
  case h_2=>cases hp
  exact jz.prim g args v H' hp args [] v H' (by simpa using hp) I K ρ w am rel hn ha
 split at ae
 ·rw[cond_eq_ite]at ae;split at ae
  case isFalse=>cases ae
  rename_i hg;have hg:=f1j hg;subst hg;exact c16 ok jz.rnd ai lf args H v H' ae I K ρ w am rel hn ha
 rename_i i hi;rw[cond_eq_ite]at ae;split at ae
 case isFalse=>cases ae
 rename_i bl;refine e3i ok hi bl (k:=λe F' H'=>match e with
  |.exit _=>none
  |_=>match a17 E F' H' i.results with
   |some vs=>a1l (E.thaw g) H.length (a7i vs) H'
   |none=>none) (λx F1 H1 r h=>by cases x<;>exact h) ?_ rel hn ha
 intro e Q he hQ I ρ a w ak;unfold e6b at ae;cases hz:E.zf g with
 |true=>rw[hz,e9i]at ae;refine d4o (e:=e) (lf:=lf) ok ai i.code (jz.draws g i hi) (jz.code hi) hQ ak ?_;rw[he];exact ae
 |false=>rw[hz,e9q]at ae;refine b7y (e:=e) (ro:=none) (lf:=lf) ok ai i.code (jz.draws g i hi) (jz.code hi) hQ ak ?_;rw[he];exact ae
end Go.Ax
