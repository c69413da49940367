/- AxSame: values and objects, compared. -/
import Derived.Test.YtmbmjfjagololaaGreatDoorAxA
import Derived.Lib.Bytealg
import Derived.RangeFuncRecord
import Derived.Scope
import Derived.LoopNIn
import Derived.Orders
import Derived.OrdersIn
set_option linter.unusedSimpArgs false
set_option linter.unusedVariables false
namespace Go.Ax
mutual
def a5e:AV→AV→Bool
 |.junk,.junk=>true
 |.bool a,.bool b=>a==b
 |.int k a,.int k' b=>decide (k=k')&&decide (a=b)
 |.str a,.str b=>decide (a=b)
 |.nilptr,.nilptr=>true
 |.nilslice,.nilslice=>true
 |.nilmap,.nilmap=>true
 |.nilfunc,.nilfunc=>true
 |.nilifc,.nilifc=>true
 |.ptr a b c,.ptr d e f=>decide (a=d)&&(decide (b=e)&&decide (c=f))
 |.iptr a,.iptr b=>a7n a b
 |.slice a b c d,.slice e f g h=>decide (a=e)&&(decide (b=f)&&(decide (c=g)&&decide (d=h)))
 |.islice r c,.islice s d=>b4o r s&&decide (c=d)
 |.map a,.map b=>decide (a=b)
 |.imap a b c d,.imap e f g h=>a7n a e&&(a7n b f&&(decide (c=g)&&decide (d=h)))
 |.iset a,.iset b=>decide (a=b)
 |.yfn a,.yfn b=>decide (a=b)
 |.func f a b,.func g c d=>decide (f=g)&&(a7n a c&&a7n b d)
 |.iface t x,.iface u y=>decide (t=u)&&a5e x y
 |.agg a,.agg b=>a7n a b
 |.tuple a,.tuple b=>a7n a b
 |_,_=>false
def a7n:List AV→List AV→Bool
 | [],[]=>true
 |x::xs,y::ys=>a5e x y&&a7n xs ys
 |_,_=>false
def b4o:List (List AV)→List (List AV)→Bool
 | [],[]=>true
 |x::xs,y::ys=>a7n x y&&b4o xs ys
 |_,_=>false
end
mutual
theorem b6s:∀(a b:AV),a5e a b=true→a=b
 |a,b,h=>by
  cases a<;>cases b<;>simp only[a5e,b46,e2d,e6n,e5d]at h
  case junk.junk=>rfl
  case bool.bool=>rw[h]
  case int.int=>rw[h.1,h.2]
  case str.str=>rw[h]
  case nilptr.nilptr=>rfl
  case nilslice.nilslice=>rfl
  case nilmap.nilmap=>rfl
  case nilfunc.nilfunc=>rfl
  case nilifc.nilifc=>rfl
  case ptr.ptr=>rw[h.1,h.2.1,h.2.2]
  case iptr.iptr=>rw[a40 _ _ h]
  case slice.slice=>rw[h.1,h.2.1,h.2.2.1,h.2.2.2]
  case islice.islice=>rw[b28 _ _ h.1,h.2]
  case map.map=>rw[h]
  case imap.imap=>rw[a40 _ _ h.1,a40 _ _ h.2.1,h.2.2.1,h.2.2.2]
  case iset.iset=>rw[h]
  case yfn.yfn=>rw[h]
  case func.func=>rw[h.1,a40 _ _ h.2.1,a40 _ _ h.2.2]
  case iface.iface=>rw[h.1,b6s _ _ h.2]
  case agg.agg=>rw[a40 _ _ h]
  case tuple.tuple=>rw[a40 _ _ h]
theorem a40:∀(a b:List AV),a7n a b=true→a=b
 | [],[],_=>rfl
 |x::xs,y::ys,h=>by simp only[a7n,b46]at h;rw[b6s x y h.1,a40 xs ys h.2]
 | [],_::_,h=>by simp[a7n]at h
 |_::_,[],h=>by simp[a7n]at h
theorem b28:∀(a b:List (List AV)),b4o a b=true→a=b
 | [],[],_=>rfl
 |x::xs,y::ys,h=>by simp only[b4o,b46]at h;rw[a40 x y h.1,b28 xs ys h.2]
 | [],_::_,h=>by simp[b4o]at h
 |_::_,[],h=>by simp[b4o]at h
end
mutual
theorem b0o:∀(a:AV),a5e a a=true
 |.junk|.bool _|.int _ _|.str _|.nilptr|.nilslice|.nilmap|.nilfunc|.nilifc|.ptr _ _ _|.slice _ _ _ _|.map _|.yfn _=>by simp[a5e]
 |.iptr a=>by simp only[a5e];exact a32 a
 |.islice r c=>by simp only[a5e,a8d r,e7a,e57]
 |.imap a b c d=>by simp only[a5e,a32 a,a32 b,e7a,e57]
 |.iset a=>by simp only[a5e,e7a]
 |.func f a b=>by simp only[a5e,a32 a,a32 b,e7a,e57]
 |.iface t x=>by simp only[a5e,b0o x,e7a,e57]
 |.agg a=>by simp only[a5e];exact a32 a
 |.tuple a=>by simp only[a5e];exact a32 a
theorem a32:∀(a:List AV),a7n a a=true
 | []=>rfl
 |x::xs=>by simp only[a7n,b0o x,a32 xs,e57]
theorem a8d:∀(a:List (List AV)),b4o a a=true
 | []=>rfl
 |x::xs=>by simp only[b4o,a32 x,a8d xs,e57]
end
def b6u:List (Nat×AV)→List (Nat×AV)→Bool
 | [],[]=>true
 |(s,v)::F,(t,u)::G=>Nat.beq s t&&(a5e v u&&b6u F G)
 |_,_=>false
theorem b6t:∀{F G:List (Nat×AV)},b6u F G=true→F=G
 | [],[],_=>rfl
 |(s,v)::F,(t,u)::G,h=>by simp only[b6u,b46,e5a]at h;rw[h.1,b6s _ _ h.2.1,b6t h.2.2]
 | [],_::_,h=>by simp[b6u]at h
 |_::_,[],h=>by simp[b6u]at h
theorem b5b:∀F:List (Nat×AV),b6u F F=true
 | []=>rfl
 |(s,v)::F=>by simp only[b6u,b0o,b5b F,Nat.beq_refl,e57]
def b0p:Option AObj→Option AObj→Bool
 |none,none=>true
 |some (.row k r),some (.row l s)=>decide (k=l)&&b4o r s
 |some (.map a b c d),some (.map e f g h)=>a7n a e&&(a7n b f&&(decide (c=g)&&decide (d=h)))
 |some (.siter s p),some (.siter t q)=>decide (s=t)&&decide (p=q)
 |some (.uset a),some (.uset b)=>decide (a=b)
 |some (.miter a b c),some (.miter d e f)=>decide (a=d)&&(decide (b=e)&&decide (c=f))
 |some (.yloop a b c),some (.yloop d e f)=>decide (a=d)&&(b6u b e&&decide (c=f))
 |some (.trow a b c r),some (.trow d e f s)=>decide (a=d)&&(decide (b=e)&&(decide (c=f)&&b4o r s))
 |_,_=>false
theorem c19(a b:Option AObj)(h:b0p a b=true):a=b:=by
 unfold b0p at h;split at h
 ·rfl
 ·simp only[b46,e2d]at h;rw[h.1,b28 _ _ h.2]
 ·simp only[b46,e2d]at h;rw[a40 _ _ h.1,a40 _ _ h.2.1,h.2.2.1,h.2.2.2]
 ·simp only[b46,e2d]at h;rw[h.1,h.2]
 ·simp only[e2d]at h;rw[h]
 ·simp only[b46,e2d]at h;rw[h.1,h.2.1,h.2.2]
 ·simp only[b46,e2d]at h;rw[h.1,b6t h.2.1,h.2.2]
 ·simp only[b46,e2d]at h;rw[h.1,h.2.1,h.2.2.1,b28 _ _ h.2.2.2]
 ·cases h
@[go_sem] theorem d40(a:Option AObj):b0p a a=true:=by
 cases a with
 |none=>rfl
 |some o=>cases o with
  |row k r=>simp only[b0p,a8d,e7a,e57]
  |map a b c d=>simp only[b0p,a32,e7a,e57]
  |siter s p=>simp only[b0p,e7a,e57]
  |uset a=>simp only[b0p,e7a]
  |miter a b c=>simp only[b0p,e7a,e57]
  |yloop a b c=>simp only[b0p,b5b,e7a,e57]
  |trow a b c r=>simp only[b0p,a8d,e7a,e57]
end Go.Ax
/- AxRun: the evaluator: operations in a row, statements, calls. Definitions only. -/
namespace Go.Ax
def a03(H:a08):FHeap:=λb=>(H[b]?).join
def a9i(H:a08):Eff→a08
 |.none=>H
 |.new o=>H++[some o]
 |.set b o=>H.set b (some o)
 |.kill b o=>H.set b none++[some o]
/-! ### what a value refers to -/
mutual
def a6g:AV→List Nat
 |.ptr b _ _=>[b]
 |.slice b _ _ _=>[b]
 |.map b=>[b]
 |.yfn b=>[b]
 |.func _ fs cs=>a0x fs++a0x cs
 |.iface _ x=>a6g x
 |.agg cs=>a0x cs
 |.tuple cs=>a0x cs
 |.junk|.bool _|.int ..|.str _|.nilptr|.nilslice|.nilmap|.nilfunc|.nilifc|.iptr _|.islice ..|.imap ..|.iset _=>[]
def a0x:List AV→List Nat
 | []=>[]
 |v::vs=>a6g v++a0x vs
end
def d65:List (Nat×AV)→List Nat
 | []=>[]
 |(_,v)::r=>a6g v++d65 r
def a36:Option AObj→List Nat
 |some (.yloop _ F _)=>d65 F
 |some (.trow _ _ _ aa)=>aa.flatMap a0x
 |some (.row _ aa)=>aa.flatMap a0x
 |some (.map ks vs _ _)=>a0x ks++a0x vs
 |_=>[]
def a1i:List Nat→Nat→Bool
 | [],_=>false
 |a::r,x=>bif Nat.beq a x then true else a1i r x
theorem a55{l:List Nat}{x:Nat}:a1i l x=true↔x∈l:=by
 induction l with
 |nil=>simp[a1i]
 |cons a r ih=>
  simp only[a1i,c3l,cond_eq_ite,e3b];by_cases h:a=x
  ·simp[h]
  ·simp only[e3o.2 h,e5d,e76,ih];exact⟨.inr,λh'=>h'.resolve_left (λe=>h e.symm)⟩
def a0j(H:a08):Nat→List Nat→List Nat→List Nat
 |0,_,bj=>bj.reverse
 |_+1,[],bj=>bj.reverse
 |n+1,b::cY,bj=>bif a1i bj b then a0j H n cY bj else a0j H n (a36 (a03 H b)++cY) (b::bj)
def a3n:Nat:=1000000
/-! ### renaming a heap -/
def a2w(σ:List Nat):Nat→Option Nat:=λb=>σ.idxOf? b
def a0q(H:a08)(σ:List Nat)(π:Nat→Option Nat):a08:=σ.map λb=>(a03 H b).map (a0t π)
def a1e(σ:List Nat)(n:Nat):Nat→Option Nat:=λj=>bif Nat.blt j σ.length then σ[j]? else some (n+(j-σ.length))
def a0n(σ:List Nat)(n:Nat)(H1:a08):Nat→a08→a08
 |_,[]=>[]
 |b,o::r=>(match σ.idxOf? b with
  |some j=>(a03 H1 j).map (a0t (a1e σ n))
  |none=>o)::a0n σ n H1 (b+1) r
def a25:List Nat→Bool
 | []=>true
 |b::r=>!(a1i r b)&&a25 r
def a2u(run:List AV→a08→Option (AV×a08))(args:List AV)(H:a08):Option (AV×a08×List Nat):=
 let σ:=a0j H a3n (a0x args) []
 bif a25 σ&&σ.all (λb=>Nat.blt b H.length)then
  match run (args.map (ren (a2w σ))) (a0q H σ (a2w σ))with
  |some (v,H1)=>some (ren (a1e σ H.length) v,a0n σ H.length H1 0 H++(H1.drop σ.length).map (Option.map (a0t (a1e σ H.length))),σ)
  |none=>none
 else none
/-! ### lent calls -/
mutual
def noI:AV→Bool
 |.iptr _=>false
 |.islice _ _=>false
 |.imap _ _ _ _=>false
 |.iset _=>false
 |.func _ fs cs=>c2k fs&&c2k cs
 |.iface _ x=>noI x
 |.agg cs=>c2k cs
 |.tuple cs=>c2k cs
 |.junk|.bool _|.int ..|.str _|.nilptr|.nilslice|.nilmap|.nilfunc|.nilifc|.ptr _ _ _|.slice _ _ _ _|.map _|.yfn _=>true
def c2k:List AV→Bool
 | []=>true
 |v::vs=>noI v&&c2k vs
end
def d1z:AObj→Bool
 |.row _ aa=>aa.all c2k
 |.map ks vs _ _=>c2k ks&&c2k vs
 |.siter _ _=>true
 |.uset _=>true
 |_=>false
def b06(H:a08):FHeap:=λb=>match a03 H b with
 |some o=>bif d1z o then some o else none
 |none=>none
def a95(run:List AV→a08→Option (AV×a08))(args:List AV)(H:a08):Option (AV×a08×List Nat):=
 match a7i 0 false (a8w (a03 H) 0 12) args with
 |some an=>match run an []with
  |some (v,H1)=>bif noI v then match a4w 0 false (a8w (b06 H1) 0 12) v with
   |some v'=>some (v',H,List.range H.length)
   |none=>none
   else none
  |none=>none
 |none=>none
def e00(args:List AV):Option AV:=
 match args with
 | [.str s,.int .u8 c]=>some (.int .i64 (Lib.indexByte s c.toNat.toUInt8))
 |_=>none
def a0e(E:Env)(ai:Bool)(call:FuncId→List AV→a08→Option (AV×a08))(f:AV)(args:List AV)(H:a08):Option (AV×a08×List Nat):=
 match f with
 |.func (.func g) fs cs=>bif E.ext g then(bif (E.fn g).isSome then a95 (call g) (fs++args++cs) H else match e00 (fs++args++cs)with
  |some v=>some (v,H,[])
  |none=>none)
  else bif (E.fn g).isSome then
   match a2u (call g) (fs++args++cs) H with
   |some (v,H',σ)=>bif ai && !(Nat.ble H.length H'.length)then none else some (v,H',σ)
   |none=>none
  else none
 |.yfn b=>match a2u (call yId) (.yfn b::args) H with
  |some (v,H',σ)=>bif ai && !(Nat.ble H.length H'.length)then none else some (v,H',σ)
  |none=>none
 |_=>none
/-! ### operations in a row -/
structure LogE where
 needs:List Nat
 keys:List Nat
def Eff.keys(n:Nat):Eff→List Nat
 |.none=>[]
 |.new _=>[n]
 |.set b _=>[b]
 |.kill b _=>[b,n]
def Eff.fits(n:Nat):Eff→Bool
 |.set b _=>Nat.blt b n
 |.kill b _=>Nat.blt b n
 |_=>true
def a16:AV→List Nat
 |.ptr b _ _=>[b]
 |.slice b _ _ _=>[b]
 |.map b=>[b]
 |_=>[]
def a88(op:Op)(v:Operand→AV):List Nat:=
 match op with
 |.load _ a=>a16 (v a)
 |.store _ a _=>a16 (v a)
 |.convert _ _ x=>a16 (v x)
 |.slice _ x _ _ _=>a16 (v x)
 |.indexAddr _ x _=>a16 (v x)
 |.lookup _ m _ _=>a16 (v m)
 |.mapUpdate _ m _ _=>a16 (v m)
 |.insert _ m _ _=>a16 (v m)
 |.mapEntry _ m _=>a16 (v m)
 |.entryStore _ m _ _=>a16 (v m)
 |.next it _=>a16 (v it)
 |.entry it=>a16 (v it)
 |.call { callee:=.builtin _,args,.. }=>args.toList.flatMap λx=>a16 (v x)
 |_=>[]
def a6d(E:Env)(f:AV)(H H':a08)(σ:List Nat):Bool:=match f with
 |.func (.func g) _ _=>E.ro g&&σ.all λb=>b0p (a03 H b) (a03 H' b)
 |_=>false
def b4q(ro:Bool)(σ:List Nat)(n n':Nat):List Nat:=bif Nat.beq n' n then(bif ro then[]else σ)else σ++List.range' n (n'-n)
def a1c(E:Env)(ai:Bool)(call:FuncId→List AV→a08→Option (AV×a08))(F:Frm)(H:a08)(op:Op):Option (AV×a08×LogE):=
 match op with
 |.call { callee:=.value f,args,.. }=>match a0e E ai call (opv E F f) (args.toList.map (opv E F)) H with
  |some (v,H',σ)=>some (v,H',⟨σ,b4q (a6d E (opv E F f) H H' σ) σ H.length H'.length⟩)
  |none=>none
 |op=>match aop E H.length (a03 H) op (opv E F)with
  |some (v,e)=>bif e.fits H.length then some (v,a9i H e,⟨a88 op (opv E F),e.keys H.length⟩)else none
  |none=>none
def a5z(N:Nat):Option Tmp→Bool
 |none=>true
 |some d=>Nat.blt d N
def b3a(a b:List Nat):Bool:=a.any λx=>a1i b x
def LogE.clash(x y:LogE):Bool:=b3a x.keys y.needs||b3a x.keys y.keys||b3a x.needs y.keys
def a9y(all:List Oper)(i:Nat):Nat→Nat→Bool
 |0,_=>false
 |n+1,j=>match all[j]? with
  |some o=>o.after.toList.any λe=>Region.binds .any e&&(e.on==i||a9y all i n e.on)
  |none=>false
def d0f(all:List Oper)(i j:Nat):Bool:=
 match all[j]? with
 |some o=>o.after.toList.any λe=>Region.binds .any e&&e.on==i
 |none=>false
def a5h(all:List Oper)(i j:Nat):Bool:=d0f all i j||a9y all i all.length j
def logOk.logRow (all:List Oper) (j:Nat) (y:LogE):Nat→List LogE→Bool
 |_,[]=>true
 |0,_::_=>false
 |i+1,x::ag=>(!(x.clash y)||a5h all i j)&&logOk.logRow all j y i ag
def logOk(all:List Oper):Nat→List LogE→Bool
 |_,[]=>true
 |0,_::_=>false
 |j+1,y::ag=>logOk.logRow all j y j ag&&logOk all j ag

def a30(all:List Oper)(j:Nat):Option Nat:=(all[j]?).bind (·.dst)
def a26(E:Env)(ai:Bool)(N:Nat)(call:FuncId→List AV→a08→Option (AV×a08))(all:List Oper){R:Type} :
 List Oper→List LogE→Frm→a08→(Frm→a08→Option R)→Option R
 | [],log,F,H,k=>bif !ai||logOk all log.length log then k F H else none
 |o::ag,log,F,H,k=>
  bif a5z N o.dst then
   match o.guard with
   |none=>match a1c E ai call F H o.op with
    |some (v,H',l)=>a26 E ai N call all ag (l::log) (a3f F o.dst v) H' k
    |none=>none
   |some (j,bQ)=>match a30 all j with
    |none=>none
    |some d=>match a2h F d with
     |.bool b=>bif b then
      (bif bQ then match a1c E ai call (a3f F (some d) (.bool true)) H o.op with
       |some (v,H',l)=>a26 E ai N call all ag (l::log) (a3f (a3f F (some d) (.bool true)) o.dst v) H' k
       |none=>none
      else a26 E ai N call all ag (⟨[],[]⟩::log) (a3f (a3f F (some d) (.bool true)) o.dst (.tuple [])) H k)
      else
       (bif bQ then a26 E ai N call all ag (⟨[],[]⟩::log) (a3f (a3f F (some d) (.bool false)) o.dst (.tuple [])) H k
       else match a1c E ai call (a3f F (some d) (.bool false)) H o.op with
        |some (v,H',l)=>a26 E ai N call all ag (l::log) (a3f (a3f F (some d) (.bool false)) o.dst v) H' k
        |none=>none)
     |.tuple []=>a26 E ai N call all ag (⟨[],[]⟩::log) (a3f F o.dst (.tuple [])) H k
     |_=>none
  else none
/-! ### statements -/
inductive AExit where
 |normal
 |exit (id:Nat)
 |ret
def a5x(keep:List Nat)(F:Frm):Frm:=keep.map λs=>(s,a2h F s)
def a80(m0:Nat)(F:Frm)(H:a08):List Nat:=(a0j H a3n ((H.take m0).flatMap a36++a0x (F.map (·.2))) []).filter λb=>Nat.ble m0 b
def b95(m0:Nat)(σ:List Nat):Nat→Option Nat:=λb=>bif Nat.blt b m0 then some b else(σ.idxOf? b).map (m0 + ·)
def c3j(π:Nat→Option Nat)(F:Frm):Frm:=F.map λx=>(x.1,ren π x.2)
def gcH(m0:Nat)(σ:List Nat)(H:a08):a08:=(H.take m0).map (Option.map (a0t (b95 m0 σ)))++a0q H σ (b95 m0 σ)
def b1z(m0:Nat)(keep:List Nat){R:Type}(body:Frm→a08→(AExit→Frm→a08→Option R)→Option R):Nat→Frm→a08→(AExit→Frm→a08→Option R)→Option R
 |0,_,_,_=>none
 |n+1,F,H,k=>
  let F1:=a5x keep F
  let σ:=a80 m0 F1 H
  bif a25 σ&&σ.all (λb=>Nat.ble m0 b)&&Nat.ble m0 H.length then
   body (c3j (b95 m0 σ) F1) (gcH m0 σ H) λe F' H'=>match e with
    |.normal=>b1z m0 keep body n F' H' k
    |e=>k e F' H'
  else none
/-! ### ranging over a set -/
def gcD(m0:Nat)(keep:List Nat)(F:Frm)(H:a08):Option (Frm×a08):=
 let F1:=a5x keep F
 let σ:=a80 m0 F1 H
 bif a25 σ&&σ.all (λb=>Nat.ble m0 b)&&Nat.ble m0 H.length then some (c3j (b95 m0 σ) F1,gcH m0 σ H)else none
def c84:List Oper→Option (Nat×Nat×List Oper)
 | []=>none
 |o::ag=>match o.op,o.dst,o.guard with
  |.next (.tmp it) false,some nx,none=>some (it,nx,ag)
  |_,_,_=>none
def a8u:Code→Option Nat
 |.seq (.region _ au false) _=>(c84 au.toList).map (·.1)
 |_=>none
def c86(F:Frm)(H:a08)(it:Nat):Option (AV×a08):=match a2h F it with
 |.ptr b 0 0=>match a03 H b with
  |some (.miter ks eh (some (some i)))=>some (.tuple [.bool true,.int .i64 i,.bool true],H.set b (some (.miter ks (eh++[i]) none)))
  |some (.miter ks eh (some none))=>some (.tuple [.bool false],H.set b (some (.miter ks eh none)))
  |_=>none
 |_=>none
abbrev R3:=AExit×Frm×a08
def e3u(ks bj:List Int)(a:Option Int)(F:Frm)(H:a08)(it:Nat):Option a08:=match a2h F it with
 |.ptr b 0 0=>match a03 H b with
  |some (.miter m8 eh _)=>bif decide (m8=ks)&&decide (eh=bj)then some (H.set b (some (.miter ks eh (some a))))else none
  |_=>none
 |_=>none
def dropIt(F:Frm)(H:a08)(it:Nat):a08:=match a2h F it with
 |.ptr b _ _=>H.set b none
 |_=>H
def b1n(m0 it:Nat)(keep:List Nat)(ks bj:List Int)(body:Frm→a08→(AExit→Frm→a08→Option R3)→Option R3)(a:Option Int)(F:Frm)(H:a08):Option R3:=
 match gcD m0 keep F H with
 |some (F1,H1)=>match e3u ks bj a F1 H1 it with
  |some H2=>body F1 H2 λe F' H'=>some (e,F',H')
  |none=>none
 |none=>none
def a4z(m0 it:Nat)(keep:List Nat)(ks:List Int)(body:Frm→a08→(AExit→Frm→a08→Option R3)→Option R3):List Int→List Int→Frm→a08→Option R3
 |bj,[],F,H=>match b1n m0 it keep ks bj body none F H with
  |some (.normal,_,_)=>none
  |some (e,F',H')=>some (e,F',dropIt F' H' it)
  |none=>none
 |bj,i::o,F,H=>match b1n m0 it keep ks bj body (some i) F H with
  |some (.normal,F',H')=>a4z m0 it keep ks body (bj++[i]) o F' H'
  |_=>none
def e0v(m0 it:Nat)(keep:List Nat)(F:Frm)(H:a08):Option (List Int):=match gcD m0 keep F H with
 |some (F1,H1)=>match a2h F1 it with
  |.ptr b 0 0=>match a03 H1 b with
   |some (.miter ks [] _)=>some ks
   |_=>none
  |_=>none
 |none=>none
def c2w(x:Int):List Int→List (List Int)
 | []=>[[x]]
 |y::l=>(x::y::l)::(c2w x l).map (y :: ·)
def b5j:List Int→List (List Int)
 | []=>[[]]
 |x::l=>(b5j l).flatMap (c2w x)
def d5r:AExit→AExit→Bool
 |.normal,.normal=>true
 |.ret,.ret=>true
 |.exit a,.exit b=>Nat.beq a b
 |_,_=>false
def c2d:a08→a08→Bool
 | [],[]=>true
 |a::H,b::J=>b0p a b&&c2d H J
 |_,_=>false
def d1h(x:Option R3)(r:R3):Bool:=match x with
 |some (e,F,H)=>d5r e r.1&&(b6u F r.2.1&&c2d H r.2.2)
 |none=>false
def c2m(m0 it:Nat)(keep:List Nat){R:Type}(body:Frm→a08→(AExit→Frm→a08→Option R3)→Option R3)(F:Frm)(H:a08)(k:AExit→Frm→a08→Option R):Option R:=
 match e0v m0 it keep F H with
 |some ks=>match(b5j ks).map λo=>a4z m0 it keep ks body [] o F H with
  |some r::rs=>bif rs.all (λx=>d1h x r)then k r.1 r.2.1 r.2.2 else none
  |_=>none
 |none=>none
def d4i(keep:List Nat):Bool:=keep.any λs=>Nat.ble 1000000 s&&Nat.blt s 1001000
def d0c:List Nat→Nat
 | []=>0
 |s::r=>bif Nat.ble 1000000 s&&Nat.blt s 1001000 then s-1000000 else d0c r
def e1k(m:Nat)(H:a08)(v:AV):AV:=match a4w m true (a8w (a03 H) m 12) v with
 |some v'=>v'
 |none=>.junk
def c5t(m:Nat)(H:a08)(F:Frm):Frm:=F.map λx=>(x.1,e1k m H x.2)
def c3n(m:Nat)(H:a08):a08:=(H.take m).map (Option.map (b9c m (a8w (a03 H) m 12)))
def yOf:List Nat→Option Nat
 | []=>none
 |s::r=>bif Nat.ble 3000000 s then some (s-3000000)else yOf r
def rfs(N f:Nat):Nat→Code→List (Nat×RInfo)
 |cur,.rangeFunc _ ps asg body=>[(cur,⟨N,ps.toList,asg,body,f⟩)]
 |cur,.seq a b=>rfs N f cur a++rfs N f cur b
 |cur,.cond _ a b=>rfs N f cur a++rfs N f cur b
 |_,.block id b=>rfs N f id b
 |cur,.loop b=>rfs N f cur b
 |cur,.scope b=>rfs N f cur b
 |_,_=>[]
def b3c(cur:Nat):List (Nat×RInfo)→Option RInfo
 | []=>none
 |(c,ri)::r=>bif Nat.beq c cur then some ri else b3c cur r
theorem a5p{N f:Nat}:∀(c:Code) (cur:Nat),b4n c=true→rfs N f cur c=[]
 |.rangeFunc _ _ _ _,cur,h=>by simp[b4n]at h
 |.seq a b,cur,h=>by simp only[b4n,b46]at h;simp[rfs,a5p a cur h.1,a5p b cur h.2]
 |.cond _ a b,cur,h=>by simp only[b4n,b46]at h;simp[rfs,a5p a cur h.1,a5p b cur h.2]
 |.block id b,cur,h=>by simp only[rfs];exact a5p b id h
 |.loop b,cur,h=>by simp only[rfs];exact a5p b cur h
 |.scope b,cur,h=>by simp only[rfs];exact a5p b cur h
 |.skip,_,_=>rfl
 |.label _,_,_=>rfl
 |.region _ _ _,_,_=>rfl
 |.exit _,_,_=>rfl
 |.ret,_,_=>rfl
 |.goto _,_,_=>rfl
 |.refuse _,_,_=>rfl
def RFOk(E:Env)(f N:Nat)(keep:Nat→List Nat)(ro:Option Nat)(cur:Nat)(c:Code):Prop:=(ro.isSome=true→b4n c=true)∧∀x∈rfs N f cur c,∃y,yOf (keep x.1)=some y∧E.G.rnd y=some x.2
section
variable {E:Env}{f N:Nat}{keep:Nat→List Nat}{ro:Option Nat}{cur:Nat}{a b:Code}
theorem RFOk.seq1(h:RFOk E f N keep ro cur (.seq a b)):RFOk E f N keep ro cur a:=⟨λhr=>by have:=h.1 hr;simp only[b4n,b46]at this;exact this.1,λx hx=>h.2 x (by simp[rfs,hx])⟩
theorem RFOk.seq2(h:RFOk E f N keep ro cur (.seq a b)):RFOk E f N keep ro cur b:=⟨λhr=>by have:=h.1 hr;simp only[b4n,b46]at this;exact this.2,λx hx=>h.2 x (by simp[rfs,hx])⟩
theorem RFOk.cond1{c:Operand}(h:RFOk E f N keep ro cur (.cond c a b)):RFOk E f N keep ro cur a:=⟨λhr=>by have:=h.1 hr;simp only[b4n,b46]at this;exact this.1,λx hx=>h.2 x (by simp[rfs,hx])⟩
theorem RFOk.cond2{c:Operand}(h:RFOk E f N keep ro cur (.cond c a b)):RFOk E f N keep ro cur b:=⟨λhr=>by have:=h.1 hr;simp only[b4n,b46]at this;exact this.2,λx hx=>h.2 x (by simp[rfs,hx])⟩
theorem RFOk.block{id:Nat}(h:RFOk E f N keep ro cur (.block id b)):RFOk E f N keep ro id b:=⟨h.1,h.2⟩
theorem RFOk.loop(h:RFOk E f N keep ro cur (.loop b)):RFOk E f N keep ro cur b:=⟨h.1,h.2⟩
theorem RFOk.scope(h:RFOk E f N keep ro cur (.scope b)):RFOk E f N keep ro cur b:=⟨h.1,h.2⟩
end
def d0s(H:a08)(b:Nat)(eW new:YSt):Option a08:=match a03 H b with
 |some (.yloop y F st)=>bif decide (st=eW)then some (H.set b (some (.yloop y F new)))else none
 |_=>none
def d8d(H:a08)(b:Nat):Option YSt:=match a03 H b with
 |some (.yloop _ _ st)=>some st
 |_=>none
def a3r(E:Env)(m0 N:Nat)(keep:Nat→List Nat)(call:FuncId→List AV→a08→Option (AV×a08))(lf:Nat) :
 Nat→Code→{R:Type}→Frm→a08→(AExit→Frm→a08→Option R)→Option R
 |_,.skip,_,F,H,k=>k .normal F H
 |_,.label _,_,F,H,k=>k .normal F H
 |_,.region _ au ai,_,F,H,k=>match c84 au.toList with
  |none=>a26 E ai N call au.toList au.toList [] F H λF' H'=>k .normal F' H'
  |some (it,nx,ag)=>bif ai || !Nat.blt nx N then none else match c86 F H it with
   |some (v,H')=>a26 E false N call au.toList ag [⟨[],[]⟩] (a3f F (some nx) v) H' λF' H'=>k .normal F' H'
   |none=>none
 |cur,.seq a b,_,F,H,k=>a3r E m0 N keep call lf cur a F H λe F' H'=>match e with
  |.normal=>a3r E m0 N keep call lf cur b F' H' k
  |e=>k e F' H'
 |cur,.cond c x y,_,F,H,k=>match opv E F c with
  |.bool t=>bif t then a3r E m0 N keep call lf cur x F H k else a3r E m0 N keep call lf cur y F H k
  |_=>none
 |_,.block id b,_,F,H,k=>a3r E m0 N keep call lf id b F H λe F' H'=>match e with
  |.exit id'=>bif id'==id then k .normal F' H' else k (.exit id') F' H'
  |e=>k e F' H'
 |cur,.loop b,_,F,H,k=>match a8u b with
  |none=>b1z m0 (keep cur) (λF H k=>a3r E m0 N keep call lf cur b F H k) lf F H λe F' H'=>bif d4i (keep cur)then k e (c5t (m0+d0c (keep cur)) H' F') (c3n (m0+d0c (keep cur)) H')else k e F' H'
  |some it=>c2m m0 it (keep cur) (λF H k=>a3r E m0 N keep call lf cur b F H k) F H k
 |cur,.rangeFunc f _ _ _,_,F,H,k=>match opv E F f,yOf (keep cur)with
  |.func (.func g) fs cs,some y=>bif (E.fn g).isSome && !(E.ext g)then
   match a2u (call g) (fs++[.yfn H.length]++cs) (H++[some (.yloop y (a5x (keep cur) F) .ready)])with
   |some (_,H2,_)=>match d8d H2 H.length with
    |some .ready=>k .normal F (H2.set H.length none)
    |some (.done none)=>k .ret F (H2.set H.length none)
    |some (.done (some id))=>k (.exit id) F (H2.set H.length none)
    |_=>none
   |none=>none
   else none
  |_,_=>none
 |cur,.scope b,_,F,H,k=>a3r E m0 N keep call lf cur b F H k
 |_,.exit id,_,F,H,k=>k (.exit id) F H
 |_,.ret,_,F,H,k=>k .ret F H
 |_,_,_,_,_,_=>none
/-! ### functions -/
def a1l(E:Env)(F:Frm)(H:a08):List ResultVar→Option (List AV)
 | []=>some []
 |.tmp t::r=>match a1l E F H r with
  |some vs=>some (a2h F t::vs)
  |none=>none
 |.cell a t::r=>match a7a E (a03 H) t (a2h F a),a1l E F H r with
  |some v,some vs=>some (v::vs)
  |_,_=>none
def a7t:List AV→AV
 | [v]=>v
 |vs=>.tuple vs
def a3k:Nat→List AV→Frm
 |_,[]=>[]
 |i,v::vs=>(i,v)::a3k (i+1) vs
def a5u(h:FHeap)(b:Nat):FHeap:=λx=>bif Nat.beq x b then none else h x
def d98(m:Nat)(v:AV)(H:a08):Option (AV×a08):=match v with
 |.ptr b i o=>bif Nat.ble m b then(match a03 H b with
  |some (.row k aa)=>match c5r m (a8w (a5u (a03 H) b) m 12) aa with
   |some cu=>some (.ptr m i o,(H.take m).map (Option.map (a0t (a1v m)))++[some (.row k cu)])
   |none=>none
  |_=>none)else none
 |.slice b off len cap=>some (.slice b off len cap,H)
 |.agg cs=>some (.agg cs,H)
 |.tuple cs=>some (.tuple cs,H)
 |.map b=>some (.map b,H)
 |.func f fs cs=>some (.func f fs cs,H)
 |.nilslice=>some (.nilslice,(H.take m).map (Option.map (a0t (a1v m))))
 |_=>none
def a5t(thaw:Bool)(m:Nat)(v:AV)(H:a08):Option (AV×a08):=
 bif thaw then(bif Nat.beq m 0 then d98 m v H else some (v,H))else match a4w m true (a8w (a03 H) m 12) v with
  |some v'=>some (v',(H.take m).map (Option.map (a0t (a1v m))))
  |none=>some (v,H)
def d0e(E:Env)(g:FuncId)(m:Nat)(v:AV)(H:a08):Option (AV×a08):=bif E.raw g then some (v,H)else a5t (E.thaw g) m v H
def c08:Frm→List Nat→List AV→Frm
 |F,t::ts,v::vs=>c08 (a3f F (some t) v) ts vs
 |F,_,_=>F
def a8e(E:Env)(call:FuncId→List AV→a08→Option (AV×a08))(lf:Nat)(args:List AV)(H:a08):Option (AV×a08):=match args with
 |.yfn b::vs=>match a03 H b with
  |some (.yloop y F .ready)=>match E.G.rnd y with
   |some ri=>bif Nat.beq vs.length ri.ps.length&&ri.ps.all (Nat.blt · ri.N)then
    a3r E H.length ri.N (E.keep ri.fid) call lf 0 ri.asg (c08 F ri.ps vs) H λe F' H'=>match e with
     |.normal=>match d0s H' b .ready .busy with
      |some H1=>a3r E H.length ri.N (E.keep ri.fid) call lf 0 ri.body F' H1 λe _ H2=>match e with
       |.normal=>(d0s H2 b .busy .ready).map (.bool true,·)
       |.ret=>(d0s H2 b .busy (.done none)).map (.bool false,·)
       |.exit id=>(d0s H2 b .busy (.done (some id))).map (.bool false,·)
      |none=>none
     |_=>none
    else none
   |none=>none
  |_=>none
 |_=>none
end Go.Ax
/- AxNow: what c8g at a3t point of a function's run, against its entry. -/
namespace Go.Ax
structure Entry where
 I:Nat→Prop
 K:Nat→Prop
 ρ:PMap
 m:Nat
 w:World
 base:List Deferred
def Marks(e:Entry)(I:Nat→Prop)(w:World)(ds:List Deferred):Prop:=∃rs:List Nat,ds=rs.map (λr=>(⟨.collected r,#[]⟩:Deferred))++e.base∧rs.Nodup∧∀r∈rs,I r∧e.w.heap.size≤r∧w.heap[r]?=some (.deferred (some []))
theorem Marks.nil{e:Entry}{I:Nat→Prop}{w:World}:Marks e I w e.base:=⟨[],rfl,List.nodup_nil,λ_ h=>(by cases h)⟩
theorem Marks.mono{e:Entry}{I I':Nat→Prop}{w w':World}{ds:List Deferred}(h:Marks e I w ds)(hI:∀c,I c→I' c)(hw:∀c,I c→w'.heap[c]?=w.heap[c]?):Marks e I' w' ds:=by obtain⟨rs,h1,h2,h3⟩:=h;exact⟨rs,h1,h2,λr hr=>⟨hI r (h3 r hr).1,(h3 r hr).2.1,by rw[hw r (h3 r hr).1];exact(h3 r hr).2.2⟩⟩
theorem a33{a:Act}{d:Option Nat}{c:Value}:(a.put d c).defers=a.defers:=by cases d<;>rfl
def NRel(ρ:PMap)(n:Nat):Prop:=∀b,n≤b→ρ b=none
structure Now(E:Env)(e:Entry)(N:Nat)(F:Frm)(H:a08)(I:Nat→Prop)(ρ:PMap)(a:Act)(w:World):Prop where
 imm:∀c,e.I c→I c
 map:∀b,b<e.m→ρ b=e.ρ b
 ext:Ext e.I e.K e.w w
 rel:HRel E.G I e.K ρ (a03 H) w
 nrel:NRel ρ H.length
 frm:FRel I w ρ N F a.tmps
 low:e.m≤H.length
 marks:Marks e I w a.defers
section
variable {E:Env}
theorem b69(H:a08):a03 H H.length=none:=by simp[a03]
theorem c1y(H:a08)(e:Eff):∀b o,a03 (a9i H e) b=some o→((a03 H).eff H.length e) b=some o:=by
 intro b o hb;cases e with
 |none=>exact hb
 |new o1=>
  simp only[a9i,a03,FHeap.eff,FHeap.set]at hb⊢;by_cases h:b=H.length
  ·subst h;simp at hb;simp[hb]
  ·rw[e2i h];rcases e6m b H.length with h1|h1
   ·rwa [e3q h1]at hb
   ·rw[e52 (by simp;omega)]at hb;simp at hb
 |set b1 o1=>
  simp only[a9i,a03,FHeap.eff,FHeap.set]at hb⊢;rw[List.getElem?_set]at hb;by_cases h:b=b1
  ·subst h;rw[e3g rfl]at hb⊢;split at hb
   ·simpa using hb
   ·simp at hb
  ·rw[e2i (λe=>h e.symm)]at hb;rw[e2i h];exact hb
 |kill b1 o1=>
  simp only[a9i,a03,FHeap.eff,FHeap.set]at hb⊢;by_cases h:b=H.length
  ·subst h;rw[e3l (by simp)]at hb;simp at hb;simp[hb]
  ·rw[e2i h];rcases e6m b H.length with h1|h1
   ·rw[e3q (by simpa using h1),List.getElem?_set]at hb;by_cases h2:b=b1
    ·subst h2;rw[e3g rfl]at hb;split at hb<;>simp at hb
    ·rw[e2i (λe=>h2 e.symm)]at hb;rw[e2i h2];exact hb
   ·rw[e52 (by simp;omega)]at hb;simp at hb
theorem a9a(H:a08)(e:Eff):(a9i H e).length=if e.fresh then H.length+1 else H.length:=by cases e<;>simp[a9i,Eff.fresh]
theorem NRel.moves{ρ ρ':PMap}{H:a08}{e:Eff}(hn:NRel ρ H.length)(hm:Moves ρ ρ' H.length e):NRel ρ' (a9i H e).length:=by
 intro b hb;rw[a9a]at hb;cases hf:e.fresh with
 |false=>rw[hf]at hb;rw[hm.2 hf];exact hn b (by simpa using hb)
 |true=>
  rw[hf]at hb;have hb:H.length+1≤b:=by simpa using hb
  rw[hm.1 b (by omega)];exact hn b (by omega)
theorem Now.op(ok:EnvOk E){e:Entry}{N:Nat}{F:Frm}{H:a08}{I:Nat→Prop}{ρ:PMap}{a:Act}{w:World}(h:Now E e N F H I ρ a w){o:Oper}{v:AV}{eff:Eff}
 (ha:aop E H.length (a03 H) o.op (opv E F)=some (v,eff))(hd:a5z N o.dst=true) :
 ∃x w' c ρ',(execOp a.eval o).run E.P w = .ok x w'∧(x = .value c∨(x = .skip∧c=undef))∧Now E e N (a3f F o.dst v) (a9i H eff) I ρ' (a.put o.dst c) w':=by
 obtain⟨x,w',c,ρ',ac,hx,step,hv,hm⟩:=d0n ok h.rel (b69 H) (h.nrel _ (e2c _)) ha (a6h h.rel h.frm);refine⟨x,w',c,ρ',ac,hx,?_⟩;have tO:∀s,o.dst=some s→s<N:=by intro s hs;rw[hs]at hd;simpa[a5z,e3f]using hd
 refine⟨h.imm,λb hb=>?_,h.ext.trans h.imm step.ext,step.rel.fewer (c1y H eff),h.nrel.moves hm,?_,?_,?_⟩
 ·rw[hm.1 b (by have:=h.low;omega)];exact h.map b hb
 ·exact(FRel.mono h.frm (λv c hv=>step.vrel hv)).set tO hv
 ·rw[a9a];have:=h.low;split<;>omega
 ·rw[a33];exact h.marks.mono (λ_ h=>h) (λc hc=>step.ext.keep c (.inl hc))
theorem Now.refine{e:Entry}{N:Nat}{F:Frm}{H:a08}{I:Nat→Prop}{ρ:PMap}{a:Act}{w:World}(h:Now E e N F H I ρ a w){d:Nat}{v:AV}(hv:VRel I w ρ v (a.tmps.getD d undef)) :
 Now E e N (a3f F (some d) v) H I ρ a w:=
 { h with frm:=⟨h.frm.1,λs=>by
  rw[a7y];split
  ·rename_i hs;subst hs;exact hv
  ·exact h.frm.2 s⟩ }
theorem Now.skip{e:Entry}{N:Nat}{F:Frm}{H:a08}{I:Nat→Prop}{ρ:PMap}{a:Act}{w:World}(h:Now E e N F H I ρ a w){o:Oper}(hd:a5z N o.dst=true) :
 Now E e N (a3f F o.dst (.tuple [])) H I ρ (a.put o.dst undef) w:=
 { h with
  frm:=h.frm.set (by intro s hs;rw[hs]at hd;simpa[a5z,e3f]using hd) (by simp only[VRel,undef];exact⟨#[],rfl,by simp[VRels]⟩)
  marks:=by rw[a33];exact h.marks }
end
end Go.Ax
/- AxCall: a call on the blocks that its arguments a0j, and back. -/
namespace Go.Ax
structure Ret(E:Env)(I K:Nat→Prop)(ρ:PMap)(m:Nat)(w:World)(I':Nat→Prop)(ρ':PMap)(H':a08)(w':World):Prop where
 imm:∀c,I c→I' c
 map:∀b,b<m→ρ' b=ρ b
 ext:Ext I K w w'
 rel:HRel E.G I' K ρ' (a03 H') w'
 nrel:NRel ρ' H'.length
 low:m≤H'.length
abbrev e3x:=List Value→World→(Ending→World→Prop)→Prop
def XR(E:Env):e3x:=λah w R=>∃l vs fn tmps asg body,ah = .func (.yield l) #[] #[]::vs∧(Instr.yield l vs.toArray).run E.P w = .ok (.round l fn tmps asg body) w∧RoundIn Fence.wide 0 E.P l fn tmps asg body w R
def XOf(E:Env)(g:FuncId):e3x:=if g=yId then XR E else λah w R=>Calls E.P g ah.toArray w R
theorem XOf.mono{E:Env}{g:FuncId}{ah:List Value}{w:World}{R R':Ending→World→Prop}(h:XOf E g ah w R)(hr:∀e w',R e w'→R' e w'):XOf E g ah w R':=by
 unfold XOf at h⊢;split at h
 ·rename_i hg;rw[e3g hg];obtain⟨l,vs,fn,tmps,asg,body,h1,h2,h3⟩:=h;exact⟨l,vs,fn,tmps,asg,body,h1,h2,h3.mono hr⟩
 ·rename_i hg;rw[e2i hg];exact Calls.mono h hr
theorem a3l{E:Env}{g:FuncId}(hg:g≠yId):XOf E g=λah w R=>Calls E.P g ah.toArray w R:=e2i hg
theorem d3o{E:Env}:XOf E yId=XR E:=e3g rfl
theorem b20{E:Env}(ok:EnvOk E){g:FuncId}{i:FInfo}(h:E.fn g=some i):g≠yId:=λe=>by rw[e,ok.yid]at h;cases h
def a4h(E:Env)(f:FuncId)(run:List AV→a08→Option (AV×a08)):Prop:=
 ∀args H v H',run args H=some (v,H')→∀(I K:Nat→Prop) (ρ:PMap) (w:World) (ah:List Value),HRel E.G I K ρ (a03 H) w→NRel ρ H.length→VRels I w ρ args ah→
  XOf E f ah w λen w'=>∃c I' ρ',en = .returned c∧Ret E I K ρ H.length w I' ρ' H' w'∧VRel I' w' ρ' v c
def a9g(K:Nat→Prop)(ρ:PMap)(hp:FHeap)(σ:List Nat):Nat→Prop:=λc=>K c∨∃b o m,hp b=some o∧ρ b=some m∧m.blk=c∧b∉σ
theorem a2t{σ:List Nat}{b j:Nat}(h:σ.idxOf? b=some j):σ[j]?=some b:=by rw[List.idxOf?_eq_some_iff]at h;obtain⟨hj,hb,_⟩:=h;rw[z9e hj,hb]
theorem b14{σ:List Nat}{b:Nat}(h:σ.idxOf? b=none):b∉σ:=by simpa[List.idxOf?_eq_none_iff]using h
theorem a54{l:List Nat}(h:a25 l=true):l.Nodup:=by
 induction l with
 |nil=>exact List.nodup_nil
 |cons b r ih=>simp only[a25,b46,e5i,←e5q,a55]at h;exact e66.2 ⟨h.1,ih h.2⟩
theorem a7w{σ:List Nat}{b j:Nat}(hn:σ.Nodup)(h:σ[j]?=some b):σ.idxOf? b=some j:=by rw[List.idxOf?_eq_some_iff];obtain⟨hj,hb⟩:=e26.1 h;refine⟨hj,hb,λi hi he=>?_⟩;have:=(List.getElem_inj (h₀:=by omega) (h₁:=hj) hn).1 (he.trans hb.symm);omega
section
variable {E:Env}{I K:Nat→Prop}{ρ:PMap}{hp:FHeap}{w:World}{σ:List Nat}
def a5c(hp:FHeap)(σ:List Nat):a08:=σ.map λb=>(hp b).map (a0t (a2w σ))
theorem b5a(j:Nat):a03 (a5c hp σ) j=(σ[j]?).bind λb=>(hp b).map (a0t (a2w σ)):=by simp only[a03,a5c,e2e];cases σ[j]?<;>simp
theorem b8n(r:HRel E.G I K ρ hp w)(hn:σ.Nodup):HRel E.G I (a9g K ρ hp σ) (λj=>(σ[j]?).bind ρ) (a03 (a5c hp σ)) w:=by
 have r1:HRel E.G I K (λj=>(σ[j]?).bind ρ) (a03 (a5c hp σ)) w:=by
  refine r.rename (π:=a2w σ) ?_ ?_ ?_
  ·intro b j m hj hb;have:=a2t hj;simp only[this,e5u,hb]
  ·intro j o' ho;rw[b5a]at ho;cases hb:σ[j]? with
   |none=>rw[hb]at ho;simp at ho
   |some b=>
    rw[hb]at ho;simp only[e5u]at ho;cases jL:hp b with
    |none=>rw[jL]at ho;simp at ho
    |some o=>rw[jL]at ho;simp only[e2a,Option.some.injEq]at ho;exact⟨b,o,jL,a7w hn hb,ho.symm⟩
  ·intro j m hj;cases hb:σ[j]? with
   |none=>rw[hb]at hj;simp at hj
   |some b=>rw[hb]at hj;exact r.dom b m hj
 refine⟨?_,r1.inj,r1.dom,r1.imm,?_,?_,r1.glob⟩
 ·intro j o' ho;obtain⟨m,h1,h2,h3,h4⟩:=r1.live j o' ho;refine⟨m,h1,h2,?_,h4⟩
  rintro(hk|⟨b,o,m',hb,bz,he,kM⟩)
  ·exact h3 hk
  ·rw[b5a]at ho;cases hσ:σ[j]? with
   |none=>rw[hσ]at ho;simp at ho
   |some b'=>
    rw[hσ]at ho h1;simp only[e5u]at ho h1;have hl:(hp b').isSome:=by cases h:hp b' with|none=>rw[h]at ho;simp at ho|some _=>rfl
    have:=r.inj b b' m' m (by simp[hb]) hl bz h1 he;subst this;exact kM (e25 hσ)
 ·rintro c (hk|⟨b,o,m',hb,bz,rfl,_⟩)
  ·exact r.kept c hk
  ·exact r.dom b m' bz
 ·rintro c hc (hk|⟨b,o,m',hb,bz,rfl,_⟩)
  ·exact r.apart c hc hk
  ·obtain⟨sA,h1,h2,_⟩:=r.live b o hb;obtain rfl:m'=sA:=z9o (bz.symm.trans h1);exact h2 hc
theorem b7f{g:FuncId}{run:List AV→a08→Option (AV×a08)}(ac:a4h E g run){args:List AV}{ah:List Value}{v1:AV}{H1:a08}
 (am:run (args.map (ren (a2w σ))) (a5c hp σ)=some (v1,H1))(r:HRel E.G I K ρ hp w)(hn:σ.Nodup)(ha:VRels I w ρ args ah) :
 XOf E g ah w λen w'=>∃c I1 ρ1,en = .returned c∧Ret E I (a9g K ρ hp σ) (λj=>(σ[j]?).bind ρ) σ.length w I1 ρ1 H1 w'∧VRel I1 w' ρ1 v1 c:=by
 have h:=ac _ _ _ _ am I (a9g K ρ hp σ) (λj=>(σ[j]?).bind ρ) w ah (b8n r hn)
  (by intro j hj;simp only[a5c,b41]at hj;simp[e52 hj])
  (by rw[←a5w];exact VRels.ren (λb j m hj hb=>by have:=a2t hj;simp only[this,e5u,hb]) args ha)
 simpa[a5c]using h
theorem b2k{n:Nat}{I1:Nat→Prop}{ρ1:PMap}{H1:a08}{w':World}(r:HRel E.G I K ρ hp w)(_:σ.Nodup)
 (aB:Ret E I (a9g K ρ hp σ) (λj=>(σ[j]?).bind ρ) σ.length w I1 ρ1 H1 w'){ρ2:PMap}{h2:FHeap}
 (a8:∀b m,ρ b=some m→ρ2 b=some m)(dD:∀j b m,a1e σ n j=some b→ρ1 j=some m→ρ2 b=some m)
 (kx:∀b m,ρ2 b=some m→ρ b=some m∨∃j,ρ1 j=some m)
 (hh:∀b o,h2 b=some o→(b∉σ∧hp b=some o)∨∃j o1,a1e σ n j=some b∧a03 H1 j=some o1∧o=a0t (a1e σ n) o1) :
 HRel E.G I1 K ρ2 h2 w':=by
 have bA:=aB.ext.size;have dm:∀c,I c→w'.heap[c]?=w.heap[c]?:=λc hc=>aB.ext.keep c (.inl hc);have r1:=aB.rel;have jT:∀b o,h2 b=some o→∃m,ρ2 b=some m∧¬I1 m.blk∧¬K m.blk∧ORel E.G I1 w' ρ2 m o∧((b∉σ∧hp b=some o∧ρ b=some m)∨∃j,a1e σ n j=some b∧(a03 H1 j).isSome∧ρ1 j=some m):=by
  intro b o hb;rcases hh b o hb with ⟨kM,jL⟩|⟨j,o1,hj,cH,rfl⟩
  ·obtain⟨m,h1,h3,h4,h5⟩:=r.live b o jL;have lU:a9g K ρ hp σ m.blk:=.inr ⟨b,o,m,jL,h1,rfl,kM⟩;refine⟨m,a8 b m h1,λhc=>r1.apart _ hc lU,h4,?_,.inl ⟨kM,jL,h1⟩⟩;exact ORel.mono o aB.imm dm a8 (aB.ext.keep _ (.inr lU)) h5
  ·obtain⟨m,h1,h3,h4,h5⟩:=r1.live j o1 cH;refine⟨m,dD j b m hj h1,h3,λhk=>h4 (.inl hk),ORel.ren (λj b m hj h=>dD j b m hj h) o1 h5,.inr ⟨j,hj,by simp[cH],h1⟩⟩
 refine⟨?_,?_,?_,r1.imm,?_,?_,r1.glob⟩
 ·intro b o hb;obtain⟨m,h1,h3,h4,h5,_⟩:=jT b o hb;exact⟨m,h1,h3,h4,h5⟩
 ·intro b b' m m' hb bE hm bz he;obtain⟨o,ho⟩:=e24.1 hb;obtain⟨o',ep⟩:=e24.1 bE;obtain⟨q,hq,_,_,_,hc⟩:=jT b o ho;obtain⟨q',jv,_,_,_,oz⟩:=jT b' o' ep;rw[hm]at hq;cases hq;rw[bz]at jv;cases jv;rcases hc with ⟨kM,jL,h1⟩|⟨j,hj,hl,h1⟩<;>rcases oz with ⟨p6,nQ,mg⟩|⟨j',iY,nd,mg⟩
  ·exact r.inj b b' m m' (by simp[jL]) (by simp[nQ]) h1 mg he
  ·exfalso;obtain⟨o1,cH⟩:=e24.1 nd;obtain⟨q,hq,_,hk,_⟩:=r1.live j' o1 cH;rw[mg]at hq;cases hq;exact hk (.inr ⟨b,o,m,jL,h1,he,kM⟩)
  ·exfalso;obtain⟨o1,cH⟩:=e24.1 hl;obtain⟨q,hq,_,hk,_⟩:=r1.live j o1 cH;rw[h1]at hq;cases hq;exact hk (.inr ⟨b',o',m',nQ,mg,he.symm,p6⟩)
  ·have:=r1.inj j j' m m' hl nd h1 mg he;subst this;rw[hj]at iY;exact z9o iY
 ·intro b m hb;rcases kx b m hb with h|⟨j,h⟩
  ·have:=r.dom b m h;omega
  ·exact r1.dom j m h
 ·intro c hc;have:=r.kept c hc;omega
 ·intro c hc hk;exact r1.apart c hc (.inl hk)
end
end Go.Ax
/- AxCall2: a call in sequence; the concrete step of a call. -/
namespace Go.Ax
section
variable {E:Env}{I K:Nat→Prop}{ρ:PMap}{w:World}
theorem a6u(σ:List Nat)(n:Nat)(H1:a08):∀(b0:Nat) (H:a08) (i:Nat),
 (a0n σ n H1 b0 H)[i]?=(H[i]?).map λo=>match σ.idxOf? (b0+i)with
  |some j=>(a03 H1 j).map (a0t (a1e σ n))
  |none=>o
 |b0,[],i=>by simp[a0n]
 |b0,o::r,0=>by simp[a0n]<;>rfl
 |b0,o::r,i+1=>by simp only[a0n,e51];rw[a6u σ n H1 (b0+1) r i,show b0+1+i=b0+(i+1) by omega]
theorem a1b(σ:List Nat)(n:Nat)(H1:a08):∀(b0:Nat) (H:a08),(a0n σ n H1 b0 H).length=H.length
 |b0,[]=>by simp[a0n]
 |b0,o::r=>by simp[a0n,a1b σ n H1 (b0+1) r]
theorem b1d{g:FuncId}{run:List AV→a08→Option (AV×a08)}(ac:a4h E g run){args:List AV}{ah:List Value}{H H':a08}{v:AV}{σ:List Nat}
 (am:a2u run args H=some (v,H',σ))(r:HRel E.G I K ρ (a03 H) w)(hn:NRel ρ H.length)(ha:VRels I w ρ args ah) :
 XOf E g ah w λen w'=>∃c I' ρ',en = .returned c∧Ret E I K ρ H.length w I' ρ' H' w'∧VRel I' w' ρ' v c:=by
 unfold a2u at am;simp only at am;generalize hσ:a0j H a3n (a0x args) []=σ' at am;rw[cond_eq_ite]at am;split at am
 case isFalse=>cases am
 rename_i hc;simp only[b46,e3n,e3f]at hc;obtain⟨dl,aq⟩:=hc;have dl:=a54 dl;split at am
 case h_2=>cases am
 rename_i v1 H1 hr;simp only[Option.some.injEq,Prod.mk.injEq]at am;obtain⟨rfl,rfl,rfl⟩:=am;have j9:run (args.map (ren (a2w σ'))) (a5c (a03 H) σ')=some (v1,H1):=hr;refine XOf.mono (b7f ac j9 r dl ha) ?_
 rintro en w' ⟨c,I1,ρ1,rfl,aB,hv⟩
 have dD:∀j b m,a1e σ' H.length j=some b→ρ1 j=some m→(if b<H.length then ρ b else ρ1 (σ'.length+(b-H.length)))=some m:=by
  intro j b m hj hm;simp only[a1e]at hj;rw[cond_eq_ite]at hj;split at hj
  ·rename_i dq;have dq:j<σ'.length:=by simpa[e3f]using dq
   have hb:=aq b (e25 hj);rw[e3g hb];have:=aB.map j dq;rw[hm,hj]at this;exact this.symm
  ·rename_i dq;have dq:σ'.length≤j:=by simpa[e3f]using dq
   cases hj;rw[e2i (by omega),show σ'.length+(H.length+(j-σ'.length)-H.length)=j by omega];exact hm
 have a8:∀b m,ρ b=some m→(if b<H.length then ρ b else ρ1 (σ'.length+(b-H.length)))=some m:=by
  intro b m hb;have:b<H.length:=by
   rcases e6m b H.length with h|h
   ·exact h
   ·rw[hn b h]at hb;cases hb
  rw[e3g this];exact hb
 refine⟨c,I1,λb=>if b<H.length then ρ b else ρ1 (σ'.length+(b-H.length)),rfl,⟨aB.imm,λb hb=>by rw[e3g hb],aB.ext.keepLess (λc hc=>.inl hc),?_,?_,?_⟩,?_⟩
 ·refine b2k r dl aB a8 dD ?_ ?_
  ·intro b m hb;split at hb
   ·exact .inl hb
   ·exact .inr ⟨_,hb⟩
  ·intro b o hb;simp only[a03]at hb;rcases e6m b H.length with i8|i8
   ·rw[e3q (by rw[a1b];exact i8),a6u]at hb;simp only[e55]at hb;rw[z9e i8]at hb;simp only[e2a,e63]at hb;split at hb
    ·rename_i j hj;right;have hσj:=a2t hj;have dq:=(e26.1 hσj).1;obtain⟨o1,cH,rfl⟩:=a0g hb;refine⟨j,o1,?_,cH,rfl⟩;simp only[a1e];rw[cond_eq_ite,e3g (by simpa[e3f]using dq)];exact hσj
    ·rename_i hj;left;exact⟨b14 hj,by simp only[a03];rw[z9e i8];simpa using hb⟩
   ·right;rw[e3l (by rw[a1b];exact i8),a1b,e2e,e6h]at hb;refine⟨σ'.length+(b-H.length),?_⟩;cases hx:H1[σ'.length+(b-H.length)]? with
    |none=>rw[hx]at hb;simp at hb
    |some ob=>
     rw[hx]at hb;simp only[e2a,e63]at hb;obtain⟨o1,rfl,rfl⟩:=a0g hb;refine⟨o1,?_,by simp[a03,hx],rfl⟩;simp only[a1e];rw[cond_eq_ite,e2i (by simp[e3f])]
     congr 1;omega
 ·intro b hb;simp only[e2f,a1b,b41,e79]at hb;have ei:=aB.low;dsimp only;rw[e2i (by omega)];exact aB.nrel _ (by omega)
 ·simp[a1b]
 ·exact VRel.ren (λj b m hj hm=>dD j b m hj hm) v1 hv
theorem a5i{a:Act}{o:Oper}{f:Operand}{args:Array Operand}{fB:Array TypeId}(ho:o.op = .call ⟨.value f,args,fB⟩){g:FuncId}{fs cs:Array Value}(hf:a.eval f = .func (.func g) fs cs) :
 (execOp a.eval o).run E.P w=(callFunc g (fs++args.map a.eval++cs)).run E.P w:=by
 obtain⟨dst,op,type,pos,after,guard⟩:=o;simp only at ho;subst ho;simp[execOp,resolve,hf,Deferred.ofValue,invoke]
theorem a1u(ok:EnvOk E){g:FuncId}(hg:(E.fn g).isSome=true)(args:Array Value):(callFunc g args).run E.P w = .ok (.enter g args) w:=by
 obtain⟨i,hi⟩:=e24.1 hg;obtain⟨fn,h1,h2,_,_,h5⟩:=ok.fn g i hi
 have h6:¬fn.name = "runtime.NumGoroutine" := by simpa using h5
 simp[callFunc,h1,h2,h6]
theorem b1v(ok:EnvOk E){g:FuncId}(hg:E.ext g=true)(cI:(E.fn g).isSome=false){args:List AV}{ah:List Value}{v:AV}(hv:e00 args=some v)(ha:VRels I w ρ args ah) :
 ∃c,(callFunc g ah.toArray).run E.P w = .ok (.value c) w∧VRel I w ρ v c:=by
 obtain⟨fn,h1,h2,h3,h4,h5⟩:=ok.ext g hg cI;unfold e00 at hv;split at hv
 case h_2=>cases hv
 rename_i s cc;cases hv;simp only[VRels]at ha;obtain⟨c1,_,rfl,hs,c2,_,rfl,hb,rfl⟩:=ha;simp only[VRel]at hs hb;obtain⟨t,rfl,ht⟩:=hs;subst hb;refine⟨.int .i64 (Lib.indexByte s cc.toNat.toUInt8),?_,by simp[VRel]⟩;have:=Lib.run_indexByteString (P:=E.P) t cc w;rw[ht]at this
 have h6:¬fn.name = "runtime.NumGoroutine" := by simpa using h3
 simp[callFunc,h1,h2,h6,h4,h5,this]
end
end Go.Ax
/- AxWf: the walk of a function's body and that of a round's, in one. -/
namespace Go.Ax
def wf:Option Nat→Fence
 |none=>Fence.wide
 |some l=>Fence.wide.inRound l
@[simp] theorem c7b(ro:Option Nat)(f:FuncId):(wf ro).fn f:=by cases ro<;>trivial
@[simp] theorem b6c(ro:Option Nat):(wf ro).round=ro:=by cases ro<;>rfl
@[simp] theorem d8e(ro:Option Nat):(wf ro).depth=none:=by cases ro<;>rfl
theorem c8u{ro:Option Nat}{n:Nat}{P:Program}{f:FuncId}{args:Array Value}{w:World}{R:Ending→World→Prop}:CallsIn (wf ro) n P f args w R↔Calls P f args w R:=by
 cases ro
 ·exact callsIn_wide
 ·exact callsIn_wide (n:=n)
theorem c7v{ro:Option Nat}{n:Nat}{P:Program}{l:Nat}{f:FuncId}{tmps:Array Value}{assign body:Code}{w:World}{R:Ending→World→Prop} :
 RoundIn (wf ro) n P l f tmps assign body w R↔RoundIn Fence.wide n P l f tmps assign body w R:=by
 cases ro<;>exact Iff.rfl
section
variable {P:Program}{ro:Option Nat}{o:Oper}{a:Act}{w:World}{K:Act→World→Prop}{Q:Exit→Act→World→Prop}
theorem a4t(hd:∀c,o.op≠ .defer c)(h:o.uponIn (wf ro) 0 P a K Q ((execOp a.eval o).run P w)):o.wpIn (wf ro) 0 P a w K Q:=⟨λf _=>c7b ro f,by rw[b6c,Oper.semAt_eq _ _ _ hd];exact h⟩
theorem a4b{f:FuncId}{args:Array Value}(h:Calls P f args w fun
 |.returned v,kK=>K (a.put o.dst v) kK
 |.panicked chain,kK=>Q (.panic chain) a kK
 |.outgrown,_=>LetsOut Q):o.uponIn (wf ro) 0 P a K Q (.ok (.enter f args) w):=
 ⟨λh=>by simp at h,c8u.2 h⟩
theorem b57{l:Nat}{f:FuncId}{tmps:Array Value}{assign body:Code}(h:RoundIn Fence.wide 0 P l f tmps assign body w fun
 |.returned v,kK=>K (a.put o.dst v) kK
 |.panicked chain,kK=>Q (.panic chain) a kK
 |.outgrown,_=>LetsOut Q):o.uponIn (wf ro) 0 P a K Q (.ok (.round l f tmps assign body) w):=
 ⟨λh=>by simp at h,c7v.2 h⟩
theorem b4h{E:Env}{n:Nat}{h:FHeap}{op:Op}{v:Operand→AV}{r:AV×Eff}(ha:aop E n h op v=some r):∀c,op≠ .defer c:=by
 rintro c rfl
 simp[aop]at ha
theorem b5y{f:Operand}{args:Array Operand}{fB:Array TypeId}(ho:o.op = .call ⟨.value f,args,fB⟩){l:Nat}(hf:a.eval f = .func (.yield l) #[] #[]) :
 (execOp a.eval o).run P w=(Instr.yield l (args.map a.eval)).run P w:=by
 obtain⟨dst,op,type,pos,after,guard⟩:=o;simp only at ho;subst ho;simp[execOp,resolve,hf,Deferred.ofValue,invoke]
end
end Go.Ax
/- AxLend: lent calls: the callee sees its caller's memory as immutable, and gives new memory only, which is frozen at once. -/
namespace Go.Ax
section
variable {I I':Nat→Prop}{w:World}{ρ:PMap}
mutual
theorem VRel.noI:∀(v:AV) {c:Value},noI v=true→VRel I w ρ v c→VRel I' w ρ v c
 |.junk,c,_,h=>by simp[VRel]
 |.bool b,c,_,h=>by simpa[VRel]using h
 |.int k n,c,_,h=>by simpa[VRel]using h
 |.str s,c,_,h=>by simpa[VRel]using h
 |.nilptr,c,_,h=>by simpa[VRel]using h
 |.nilslice,c,_,h=>by simpa[VRel]using h
 |.nilmap,c,_,h=>by simpa[VRel]using h
 |.nilfunc,c,_,h=>by simpa[VRel]using h
 |.nilifc,c,_,h=>by simpa[VRel]using h
 |.ptr b i o,c,_,h=>by simpa only[VRel]using h
 |.slice b off len cap,c,_,h=>by simpa only[VRel]using h
 |.map b,c,_,h=>by simpa only[VRel]using h
 |.yfn b,c,_,h=>by simpa only[VRel]using h
 |.iptr cs,c,hn,_=>by simp[Ax.noI]at hn
 |.islice aa cap,c,hn,_=>by simp[Ax.noI]at hn
 |.imap ks vs bs co,c,hn,_=>by simp[Ax.noI]at hn
 |.iset ks,c,hn,_=>by simp[Ax.noI]at hn
 |.func fn fs cs,c,hn,h=>by simp only[Ax.noI,b46]at hn;simp only[VRel]at h⊢;obtain⟨a,b,rfl,h1,h2⟩:=h;exact⟨a,b,rfl,VRels.noI fs hn.1 h1,VRels.noI cs hn.2 h2⟩
 |.iface t x,c,hn,h=>by simp only[Ax.noI]at hn;simp only[VRel]at h⊢;obtain⟨a,rfl,h1⟩:=h;exact⟨a,rfl,VRel.noI x hn h1⟩
 |.agg cs,c,hn,h=>by simp only[Ax.noI]at hn;simp only[VRel]at h⊢;obtain⟨a,rfl,h1⟩:=h;exact⟨a,rfl,VRels.noI cs hn h1⟩
 |.tuple cs,c,hn,h=>by simp only[Ax.noI]at hn;simp only[VRel]at h⊢;obtain⟨a,rfl,h1⟩:=h;exact⟨a,rfl,VRels.noI cs hn h1⟩
theorem VRels.noI:∀(vs:List AV) {cs:List Value},c2k vs=true→VRels I w ρ vs cs→VRels I' w ρ vs cs
 | [],cs,_,h=>by simpa[VRels]using h
 |v::vs,cs,hn,h=>by simp only[c2k,b46]at hn;simp only[VRels]at h⊢;obtain⟨c,aT,rfl,h1,h2⟩:=h;exact⟨c,aT,rfl,VRel.noI v hn.1 h1,VRels.noI vs hn.2 h2⟩
end
theorem VAt.noI:∀(vs:List AV) {b off:Nat},c2k vs=true→VAt I w ρ vs b off→VAt I' w ρ vs b off
 | [],b,off,_,h=>by simp[VAt]
 |v::vs,b,off,hn,h=>by simp only[c2k,b46]at hn;simp only[VAt]at h⊢;obtain⟨⟨c,hc,h1⟩,h2⟩:=h;exact⟨⟨c,hc,VRel.noI v hn.1 h1⟩,VAt.noI vs hn.2 h2⟩
theorem VRows.noI{k:Nat}:∀(rs:List (List AV)) {b off:Nat},rs.all c2k=true→VRows I w k ρ rs b off→VRows I' w k ρ rs b off
 | [],b,off,_,h=>by simp[VRows]
 |r::rs,b,off,hn,h=>by simp only[List.all_cons,b46]at hn;simp only[VRows]at h⊢;exact⟨h.1,VAt.noI r hn.1 h.2.1,VRows.noI rs hn.2 h.2.2⟩
theorem ORel.noI{G:GTab (List AV)}{m:Pl}(o:AObj)(hn:d1z o=true)(h:ORel G I w ρ m o):ORel G I' w ρ m o:=by
 cases o with
 |row k aa=>exact⟨h.1,h.2.1,h.2.2.1,VRows.noI aa hn h.2.2.2⟩
 |map ks vs bs co=>simp only[d1z,b46]at hn;obtain⟨es,h1,h2,h3,h4⟩:=h;exact⟨es,h1,VRels.noI ks hn.1 h2,VRels.noI vs hn.2 h3,h4⟩
 |siter s pos=>exact h
 |uset ks=>exact h
 |miter ks eh eK=>simp[d1z]at hn
 |yloop y F st=>simp[d1z]at hn
 |trow t x k aa=>simp[d1z]at hn
end
theorem a73{H:a08}{b:Nat}{o:AObj}(h:b06 H b=some o):a03 H b=some o∧d1z o=true:=by
 unfold b06 at h;split at h
 case h_2=>cases h
 rename_i o' ho;rw[cond_eq_ite]at h;split at h
 case isFalse=>cases h
 rename_i hn;cases h;exact⟨ho,hn⟩
section
variable {E:Env}{I K:Nat→Prop}{ρ:PMap}{h hl:FHeap}{w:World}
theorem b8r{g:FuncId}{run:List AV→a08→Option (AV×a08)}(ac:a4h E g run)(hB:∀b o,hl b=some o→h b=some o)(r:HRel E.G I K ρ h w){args an:List AV}{ah:List Value}{v v':AV}{H1:a08}
 (ha:VRels I w ρ args ah)(hf:a7i 0 false (a8w hl 0 12) args=some an)(hr:run an []=some (v,H1))(hn:noI v=true)(hv:a4w 0 false (a8w (b06 H1) 0 12) v=some v') :
 XOf E g ah w λen w'=>∃c I',en = .returned c∧(∀c,I c→I' c)∧Ext I K w w'∧HRel E.G I' K ρ h w'∧VRel I' w' ρ v' c:=by
 have rl:HRel E.G I K ρ hl w:=r.fewer hB;have hI:∀c,I c→a3m I ρ hl 0 c:=λc hc=>.inl hc;have h1:=a81 hI (a58 rl 12) args hf ha;rw[a78]at h1;have uk:∀c,a3m I ρ hl 0 c→a3m I ρ h 0 c:=by
  rintro c (hc|⟨b,o,p,h0,hb,hp,he⟩)
  ·exact .inl hc
  ·exact .inr ⟨b,o,p,h0,hB b o hb,hp,he⟩
 have h2:VRels (a3m I ρ h 0) w noP an ah:=VRels.mono uk (λ_ _=>rfl) an (λ_ _ h=>h) h1;have nr:∀c,a3m I ρ h 0 c→c<w.heap.size:=by
  rintro c (hc|⟨b,o,p,_,_,hp,rfl⟩)
  ·exact r.imm c hc
  ·exact r.dom b p hp
 have pv:HRel E.G (a3m I ρ h 0) K noP (a03 []) w:=by
  refine⟨λb o hb=>by simp[a03]at hb,λb b' m m' hb=>by simp[a03]at hb,λb m hb=>by simp[noP]at hb,nr,r.kept,?_,λg cs hg=>⟨.inl (r.glob g cs hg).1,GAt.mono (λc hc=>.inl hc) (λ_ _=>rfl) cs (λ_ _ h=>h) rfl (r.glob g cs hg).2⟩⟩
  rintro c (hc|⟨b,o,p,_,hb,hp,rfl⟩)
  ·exact r.apart c hc
  ·obtain⟨q,hq,_,hk,_⟩:=r.live b o hb;rw[hp]at hq;cases hq;exact hk
 have am:=ac an [] v H1 hr (a3m I ρ h 0) K noP w ah pv (λ_ _=>rfl) h2;refine XOf.mono am ?_
 rintro en w' ⟨c,I1,ρ1,rfl,aB,gr⟩
 have keep:∀c,I c→w'.heap[c]?=w.heap[c]?:=λc hc=>aB.ext.keep c (.inl (.inl hc));have bA:=aB.ext.size;have lF:∀b o p,b06 H1 b=some o→ρ1 b=some p→¬I1 p.blk∧¬K p.blk:=by intro b o p hb hp;obtain⟨q,hq,h3,h4,_⟩:=aB.rel.live b o (a73 hb).1;rw[hp]at hq;cases hq;exact⟨h3,h4⟩
 have pu:HRel E.G I K ρ1 (b06 H1) w':=by
  refine⟨?_,?_,aB.rel.dom,λc hc=>by have:=r.imm c hc;omega,aB.rel.kept,r.apart,λg cs hg=>⟨(r.glob g cs hg).1,GAt.mono (λ_ h=>h) keep cs (λ_ _ h=>h) (keep _ (r.glob g cs hg).1) (r.glob g cs hg).2⟩⟩
  ·intro b o hb;obtain⟨du,d7⟩:=a73 hb;obtain⟨q,hq,h3,h4,h5⟩:=aB.rel.live b o du;exact⟨q,hq,λhc=>h3 (aB.imm _ (.inl hc)),h4,ORel.noI o d7 h5⟩
  ·intro b b' m m' hb bE;obtain⟨o,ho⟩:=e24.1 hb;obtain⟨o',ep⟩:=e24.1 bE;exact aB.rel.inj b b' m m' (by rw[(a73 ho).1];rfl) (by rw[(a73 ep).1];rfl)
 have q9:=b16 (I':=a3m I ρ1 (b06 H1) 0) (λc hc=>.inl hc) (a58 pu 12) v hv (VRel.noI (I':=I) v hn gr);rw[a78]at q9;refine⟨c,a3m I ρ1 (b06 H1) 0,rfl,λc hc=>.inl hc,⟨aB.ext.os,aB.ext.tape,aB.ext.output,bA,λc hc=>aB.ext.keep c (hc.imp .inl id)⟩,?_,VRel.mono (λ_ h=>h) (λ_ _=>rfl) v' (λ_ _ h=>by simp[noP]at h) q9⟩;refine⟨?_,r.inj,λb m hb=>by have:=r.dom b m hb;omega,?_,aB.rel.kept,?_,λg cs hg=>⟨.inl (r.glob g cs hg).1,GAt.mono (λc hc=>.inl hc) keep cs (λ_ _ h=>h) (keep _ (r.glob g cs hg).1) (r.glob g cs hg).2⟩⟩
 ·intro b o hb;obtain⟨m,h3,h4,h5,h6⟩:=r.live b o hb;have dC:a3m I ρ h 0 m.blk:=.inr ⟨b,o,m,e3h _,hb,h3,rfl⟩;refine⟨m,h3,?_,h5,ORel.mono o (λc hc=>.inl hc) keep (λ_ _ h=>h) (aB.ext.keep _ (.inl dC)) h6⟩
  rintro(hc|⟨b',o',p,_,bE,hp,he⟩)
  ·exact h4 hc
  ·exact(lF b' o' p bE hp).1 (he▸aB.imm _ dC)
 ·rintro c (hc|⟨b',o',p,_,bE,hp,rfl⟩)
  ·have:=r.imm c hc;omega
  ·exact aB.rel.dom b' p hp
 ·rintro c (hc|⟨b',o',p,_,bE,hp,rfl⟩)
  ·exact r.apart c hc
  ·exact(lF b' o' p bE hp).2
theorem b3e{run:List AV→a08→Option (AV×a08)}{args:List AV}{H H':a08}{v':AV}{σ:List Nat}(am:a95 run args H=some (v',H',σ)) :
 H'=H∧σ=List.range H.length∧∃an v H1,a7i 0 false (a8w (a03 H) 0 12) args=some an∧run an []=some (v,H1)∧noI v=true∧a4w 0 false (a8w (b06 H1) 0 12) v=some v':=by
 unfold a95 at am;split at am
 case h_2=>cases am
 rename_i an h1;split at am
 case h_2=>cases am
 rename_i v H1 h2;rw[cond_eq_ite]at am;split at am
 case isFalse=>cases am
 rename_i h3;split at am
 case h_2=>cases am
 rename_i v2 h4;cases am;exact⟨rfl,rfl,an,v,H1,h1,h2,h3,h4⟩
theorem c2u{g:FuncId}{run:List AV→a08→Option (AV×a08)}(ac:a4h E g run){args:List AV}{ah:List Value}{H H':a08}{v:AV}{σ:List Nat}
 (am:a95 run args H=some (v,H',σ))(r:HRel E.G I K ρ (a03 H) w)(hn:NRel ρ H.length)(ha:VRels I w ρ args ah) :
 XOf E g ah w λen w'=>∃c I' ρ',en = .returned c∧Ret E I K ρ H.length w I' ρ' H' w'∧VRel I' w' ρ' v c:=by
 obtain⟨rfl,-,an,v0,H1,h1,h2,h3,h4⟩:=b3e am;refine XOf.mono (b8r ac (λ_ _ h=>h) r ha h1 h2 h3 h4) ?_
 rintro en w' ⟨c,I',rfl,hI,dP,cO,hv⟩
 exact⟨c,I',ρ,rfl,⟨hI,λ_ _=>rfl,dP,cO,hn,e2c _⟩,hv⟩
end
end Go.Ax
/- AxSeq: operations in a row that draw no order. -/
namespace Go.Ax
section
variable {E:Env}
theorem Now.call{e:Entry}{N:Nat}{F:Frm}{H H':a08}{I I':Nat→Prop}{ρ ρ':PMap}{a:Act}{w w':World}(h:Now E e N F H I ρ a w)(r:Ret E I e.K ρ H.length w I' ρ' H' w')
 {d:Option Tmp}{v:AV}{c:Value}(hd:a5z N d=true)(hv:VRel I' w' ρ' v c):Now E e N (a3f F d v) H' I' ρ' (a.put d c) w':=by
 have hρ:∀b m,ρ b=some m→ρ' b=some m:=by
  intro b m hb;have:b<H.length:=by
   rcases e6m b H.length with h'|h'
   ·exact h'
   ·rw[h.nrel b h']at hb;cases hb
  rw[r.map b this];exact hb
 refine⟨λc hc=>r.imm c (h.imm c hc),λb hb=>?_,h.ext.trans h.imm r.ext,r.rel,r.nrel,?_,?_,?_⟩
 ·rw[r.map b (by have:=h.low;omega)];exact h.map b hb
 ·exact(FRel.mono h.frm (λv c hv=>VRel.mono r.imm (λc hc=>r.ext.keep c (.inl hc)) v hρ hv)).set (by intro s hs;rw[hs]at hd;simpa[a5z,e3f]using hd) hv
 ·have:=h.low;have:=r.low;omega
 ·rw[a33];exact h.marks.mono r.imm (λc hc=>r.ext.keep c (.inl hc))
def a3d(E:Env)(call:FuncId→List AV→a08→Option (AV×a08)):Prop:=∀g,a4h E g (call g)
theorem b2t(ok:EnvOk E){ro:Option Nat}{call:FuncId→List AV→a08→Option (AV×a08)}(am:a3d E call){ai:Bool}{e:Entry}{N:Nat}{F:Frm}{H H':a08}{I:Nat→Prop}{ρ:PMap}{a:Act}{w:World}
 (h:Now E e N F H I ρ a w){o:Oper}{v:AV}{l:LogE}(hs:a1c E ai call F H o.op=some (v,H',l))(hd:a5z N o.dst=true){K:Act→World→Prop}{Q:Exit→Act→World→Prop}
 (hK:∀I' ρ' a' w',Now E e N (a3f F o.dst v) H' I' ρ' a' w'→K a' w'):o.wpIn (wf ro) 0 E.P a w K Q:=by
 unfold a1c at hs;split at hs
 ·rename_i f args fB cV;split at hs
  case h_2=>cases hs
  rename_i v' H1 σ bC;cases hs;refine a4t (by rw[cV];intro c hc;cases hc) ?_;unfold a0e at bC;split at bC
  case h_3=>cases bC
  case h_2=>
   rename_i b kq;have hf:=a6h h.rel h.frm f;rw[kq]at hf;simp only[VRel]at hf;obtain⟨m,hm,fJ⟩:=hf;rw[b5y cV fJ];split at bC
   case h_2=>cases bC
   rename_i nq H2 σ2 fw;rw[cond_eq_ite]at bC;split at bC
   case isTrue=>cases bC
   cases bC;have aV:VRels I w ρ (.yfn b::args.toList.map (opv E F)) (.func (.yield m.blk) #[] #[]::(args.map a.eval).toList):=by simp only[VRels];refine⟨_,_,rfl,by simp only[VRel];exact⟨m,hm,rfl⟩,?_⟩;rw[e5t];exact a39 (a6h h.rel h.frm) args.toList
   have hc:=b1d (am yId) fw h.rel h.nrel aV;rw[d3o]at hc;obtain⟨l,vs,fn,tmps,asg,body,he,hy,hr⟩:=hc;simp only[List.cons.injEq,Value.func.injEq,Fn.yield.injEq,and_true]at he;obtain⟨hl,rfl⟩:=he;rw[hl];have bU:(args.map a.eval).toList.toArray=args.map a.eval:=by apply e6c;simp
   rw[bU]at hy;rw[hy];refine b57 (hr.mono ?_)
   rintro en w' ⟨c,I',ρ',rfl,aB,gG⟩
   exact hK I' ρ' _ _ (h.call aB hd gG)
  rename_i g fs cs kq;have hf:=a6h h.rel h.frm f;rw[kq]at hf;simp only[VRel]at hf;obtain⟨di,aT,fJ,gJ,dp⟩:=hf;have aV:VRels I w ρ (fs++args.toList.map (opv E F)++cs) (di++args.map a.eval++aT).toList:=by simp only[e6z,e5t];exact VRels.append (VRels.append gJ (a39 (a6h h.rel h.frm) args.toList)) dp
  rw[a5i cV fJ];rw[cond_eq_ite]at bC;split at bC
  ·rename_i dP;rw[cond_eq_ite]at bC;split at bC
   ·rename_i hg;rw[a1u ok hg];have hc:=c2u (am g) bC h.rel h.nrel aV;obtain⟨i,hi⟩:=e24.1 hg;rw[a3l (b20 ok hi)]at hc;have bU:(di++args.map a.eval++aT).toList.toArray=di++args.map a.eval++aT:=by apply e6c;simp
    rw[bU]at hc;refine a4b (Calls.mono hc ?_)
    rintro en w' ⟨c,I',ρ',rfl,aB,gG⟩
    exact hK I' ρ' _ _ (h.call aB hd gG)
   rename_i cI;split at bC
   case h_2=>cases bC
   rename_i nq mq;cases bC;obtain⟨c,ac,gG⟩:=b1v (E:=E) (w:=w) ok dP (by simpa using cI) mq aV;have bU:(di++args.map a.eval++aT).toList.toArray=di++args.map a.eval++aT:=by apply e6c;simp
   rw[bU]at ac;rw[ac,Oper.uponIn_value];exact hK I ρ _ _ (h.call ⟨λ_ h=>h,λ_ _=>rfl,Ext.refl _ _ _,h.rel,h.nrel,e2c _⟩ hd gG)
  ·rw[cond_eq_ite]at bC;split at bC
   case isFalse=>cases bC
   rename_i hg;split at bC
   case h_2=>cases bC
   rename_i nq H2 σ2 fw;rw[cond_eq_ite]at bC;split at bC
   case isTrue=>cases bC
   cases bC;rw[a1u ok hg];have hc:=b1d (am g) fw h.rel h.nrel aV;obtain⟨i,hi⟩:=e24.1 hg;rw[a3l (b20 ok hi)]at hc;have bU:(di++args.map a.eval++aT).toList.toArray=di++args.map a.eval++aT:=by apply e6c;simp
   rw[bU]at hc;refine a4b (Calls.mono hc ?_)
   rintro en w' ⟨c,I',ρ',rfl,aB,gG⟩
   exact hK I' ρ' _ _ (h.call aB hd gG)
 ·split at hs
  case h_2=>cases hs
  rename_i v' eff ha;rw[cond_eq_ite]at hs;split at hs
  case isFalse=>cases hs
  cases hs;obtain⟨x,w',c,ρ',ac,hx,ae⟩:=h.op ok ha hd;refine a4t (b4h ha) ?_;rw[ac];rcases hx with rfl|⟨rfl,rfl⟩
  ·rw[Oper.uponIn_value];exact hK I ρ' _ _ ae
  ·rw[Oper.uponIn_skip];exact hK I ρ' _ _ ae
theorem a61{ro:Option Nat}{P:Program}{au:Array Oper}{Q:Exit→Act→World→Prop}{i:Nat}{ag:List Nat}{a:Act}{w:World}{o:Oper}(ho:au[i]?=some o)
 (hw:Region.wanted o (yielded au a.tmps)=true)(h:o.wpIn (wf ro) 0 P a w (wpOpsIn (wf ro) 0 P au Q ag) Q):wpOpsIn (wf ro) 0 P au Q (i::ag) a w:=by
 simp only[wpOpsIn,ho,hw,e78];exact h
theorem b51{ro:Option Nat}{P:Program}{au:Array Oper}{Q:Exit→Act→World→Prop}{i:Nat}{ag:List Nat}{a:Act}{w:World}{o:Oper}(ho:au[i]?=some o)
 (hw:Region.wanted o (yielded au a.tmps)=false)(h:wpOpsIn (wf ro) 0 P au Q ag (a.put o.dst undef) w):wpOpsIn (wf ro) 0 P au Q (i::ag) a w:=by
 simp only[wpOpsIn,ho,hw,e5d,e76];exact⟨λf _=>c7b ro f,h⟩
theorem b50{e:Entry}{N:Nat}{F:Frm}{H:a08}{I:Nat→Prop}{ρ:PMap}{a:Act}{w:World}(h:Now E e N F H I ρ a w){au:Array Oper}{j d:Nat}(hg:a30 au.toList j=some d) :
 (∀b,a2h F d = .bool b→yielded au a.tmps j=some b)∧(a2h F d = .tuple []→yielded au a.tmps j=none):=by
 have hd:(au[j]?).bind (·.dst)=some d:=by simpa[a30]using hg
 have hv:=h.frm.2 d;have cW:∀c,a.tmps.getD d undef=c→c≠undef→a.tmps[d]?=some c:=by
  intro c hc aK;rw[e53]at hc;cases hx:a.tmps[d]? with
  |none=>rw[hx]at hc;exact absurd hc.symm aK
  |some x=>rw[hx]at hc;simpa using hc
 refine⟨λb hb=>?_,λhb=>?_⟩
 ·rw[hb]at hv;simp only[VRel]at hv;have:=cW _ hv (by simp[undef]);simp[yielded,hd,this]
 ·rw[hb]at hv;simp only[VRel]at hv;obtain⟨cs,hc,dp⟩:=hv;unfold yielded;rw[hd];simp only[e5u];rw[e53]at hc;cases hx:a.tmps[d]? with
  |none=>rfl
  |some x=>rw[hx]at hc;simp only[e64]at hc;rw[hc]
theorem b0q(ok:EnvOk E){ro:Option Nat}{call:FuncId→List AV→a08→Option (AV×a08)}(am:a3d E call){e:Entry}{N:Nat}{au:Array Oper}{R:Type}{k:Frm→a08→Option R}{r:R}
 {Q:Exit→Act→World→Prop}(hQ:∀F H I ρ a w,Now E e N F H I ρ a w→k F H=some r→Q .normal a w) :
 ∀(ag:List Oper) (s:Nat) (log:List LogE) (F:Frm) (H:a08) (I:Nat→Prop) (ρ:PMap) (a:Act) (w:World),ag=au.toList.drop s→Now E e N F H I ρ a w→
  a26 E false N call au.toList ag log F H k=some r→wpOpsIn (wf ro) 0 E.P au Q (List.range' s ag.length) a w
 | [],s,log,F,H,I,ρ,a,w,_,ae,ac=>by simp only[a26,e7g,Bool.true_or,e3e]at ac;simp only[e27,List.range'_zero,wpOpsIn];exact hQ F H I ρ a w ae ac
 |o::ag,s,log,F,H,I,ρ,a,w,cj,ae,ac=>by
  have ho:au[s]?=some o:=by
   have:(au.toList.drop s)[0]?=some o:=by rw[←cj];rfl
   rw[e6h]at this;simpa using this
  have fg:ag=au.toList.drop (s+1):=by
   have:(au.toList.drop s).drop 1=ag:=by rw[←cj];rfl
   rw[e7h]at this;exact this.symm
  rw[b94,List.range'_succ];unfold a26 at ac;rw[cond_eq_ite]at ac;split at ac
  case isFalse=>cases ac
  rename_i hd;have ih:=λlog F H I ρ a w ae ac=>b0q (ro:=ro) ok am hQ ag (s+1) log F H I ρ a w fg ae ac;have exec:∀F0,Now E e N F0 H I ρ a w→(match a1c E false call F0 H o.op with
   |some (v,H',l)=>a26 E false N call au.toList ag (l::log) (a3f F0 o.dst v) H' k
   |none=>none)=some r→Region.wanted o (yielded au a.tmps)=true→wpOpsIn (wf ro) 0 E.P au Q (s::List.range' (s+1) ag.length) a w:=by
   intro F0 ev hr hw;split at hr
   case h_2=>cases hr
   rename_i v H' l hs;exact a61 ho hw (b2t ok am ev hs hd (λI' ρ' a' w' iT=>ih _ _ _ I' ρ' a' w' iT hr))
  have skip:∀F0 go,Now E e N F0 H I ρ a w→a26 E false N call au.toList ag go (a3f F0 o.dst (.tuple [])) H k=some r→Region.wanted o (yielded au a.tmps)=false→
   wpOpsIn (wf ro) 0 E.P au Q (s::List.range' (s+1) ag.length) a w:=by
   intro F0 go ev hr hw;exact b51 ho hw (ih _ _ _ I ρ _ w (ev.skip hd) hr)
  split at ac
  ·rename_i hg;exact exec F ae ac (by simp[Region.wanted,hg])
  ·rename_i j bQ hg;split at ac
   case h_1=>cases ac
   rename_i d lx;obtain⟨pG,pF⟩:=b50 ae lx;split at ac
   ·rename_i b hb;have mn:=pG b hb;have cg:=ae.frm.2 d;rw[hb]at cg;have hw:Region.wanted o (yielded au a.tmps)=(b==bQ):=by simp[Region.wanted,hg,mn]
    cases b
    ·simp only[e3p]at ac;have ev:=ae.refine (d:=d) (v:=.bool false) cg;cases bQ
     ·simp only[e3p]at ac;exact exec _ ev ac (by rw[hw];rfl)
     ·simp only[e3e]at ac;exact skip _ _ ev ac (by rw[hw];rfl)
    ·simp only[e3e]at ac;have ev:=ae.refine (d:=d) (v:=.bool true) cg;cases bQ
     ·simp only[e3p]at ac;exact skip _ _ ev ac (by rw[hw];rfl)
     ·simp only[e3e]at ac;exact exec _ ev ac (by rw[hw];rfl)
   ·rename_i hb;have mn:=pF hb;exact skip F _ ae ac (by simp[Region.wanted,hg,mn])
   ·cases ac
end
end Go.Ax
/- AxGc: what may be forgotten: slots behind a region, blocks at a loop's head. -/
namespace Go.Ax
section
variable {E:Env}{e:Entry}{N:Nat}{F:Frm}{H:a08}{I:Nat→Prop}{ρ:PMap}{a:Act}{w:World}
theorem b3o(F:Frm):∀(keep:List Nat) (s:Nat),a2h (a5x keep F) s=if keep.contains s then a2h F s else .junk
 | [],s=>by simp[a5x,a2h]
 |t::keep,s=>by
  have ih:=b3o F keep s;simp only[a5x]at ih⊢;simp only[e2b,a2h,c3l,ih];by_cases jh:t=s
  ·subst jh;simp
  ·have:(s==t)=false:=by simpa using λh=>jh h.symm
   have hc:(t::keep).contains s=keep.contains s:=by rw[List.contains_cons,this,Bool.false_or]
   rw[hc,e3o.2 jh];rfl
theorem Now.keep(h:Now E e N F H I ρ a w)(keep:List Nat):Now E e N (a5x keep F) H I ρ a w:=
 { h with frm:=⟨h.frm.1,λs=>by
  rw[b3o];split
  ·exact h.frm.2 s
  ·simp[VRel]⟩ }
theorem c1o(π:Nat→Option Nat):∀(F:Frm) (s:Nat),a2h (c3j π F) s=ren π (a2h F s)
 | [],s=>by simp[c3j,a2h,ren]
 |(t,v)::F,s=>by have ih:=c1o π F s;simp only[c3j]at ih⊢;simp only[e2b,a2h,c3l,ih];cases h:(t==s)<;>simp
theorem Now.gc(h:Now E e N F H I ρ a w){σ:List Nat}(hn:σ.Nodup)(ei:∀b∈σ,e.m≤b) :
 ∃ρ',Now E e N (c3j (b95 e.m σ) F) (gcH e.m σ H) I ρ' a w:=by
 have ak:(gcH e.m σ H).length=e.m+σ.length:=by have:=h.low;simp[gcH,a0q];omega
 have hπ:∀b b' m,b95 e.m σ b=some b'→ρ b=some m→(if b'<e.m then ρ b' else(σ[b'-e.m]?).bind ρ)=some m:=by
  intro b b' m hp hb;simp only[b95]at hp;rw[cond_eq_ite]at hp;split at hp
  ·rename_i aq;cases hp;rw[e3g (by simpa[e3f]using aq)];exact hb
  ·obtain⟨j,hj,rfl⟩:=a0g hp;rw[e2i (by omega),Nat.add_sub_cancel_left,a2t hj];exact hb
 refine⟨λb=>if b<e.m then ρ b else(σ[b-e.m]?).bind ρ,h.imm,λb hb=>?_,h.ext,?_,?_,?_,?_,h.marks⟩
 ·show(if b<e.m then ρ b else _)=_;rw[e3g hb];exact h.map b hb
 ·refine h.rel.rename (π:=b95 e.m σ) hπ ?_ ?_
  ·intro b' o' ho;simp only[a03,gcH]at ho;have jj:(H.take e.m).length=e.m:=by have:=h.low;simp;omega
   rcases e6m b' e.m with hb|hb
   ·rw[e3q (by rw[b41,jj];exact hb),e2e,e5g,e3g hb]at ho;cases hx:H[b']? with
    |none=>rw[hx]at ho;simp at ho
    |some ob=>rw[hx]at ho;simp only[e2a,e63]at ho;obtain⟨o,rfl,rfl⟩:=a0g ho;refine⟨b',o,by simp[a03,hx],?_,rfl⟩;simp only[b95];rw[cond_eq_ite,e3g (by simpa[e3f]using hb)]
   ·rw[e3l (by rw[b41,jj];exact hb)]at ho;simp only[b41,jj,a0q,e2e]at ho;cases hx:σ[b'-e.m]? with
    |none=>rw[hx]at ho;simp at ho
    |some b=>rw[hx]at ho;simp only[e2a,e63]at ho;obtain⟨o,cH,rfl⟩:=a0g ho;refine⟨b,o,cH,?_,rfl⟩;have i8:=ei b (e25 hx);simp only[b95];rw[cond_eq_ite,e2i (by simpa[e3f]using i8),a7w hn hx];simp only[e2a,Option.some.injEq];omega
  ·intro b m hb;split at hb
   ·exact h.rel.dom b m hb
   ·cases hx:σ[b-e.m]? with
    |none=>rw[hx]at hb;simp at hb
    |some b'=>rw[hx]at hb;exact h.rel.dom b' m hb
 ·intro b hb;rw[ak]at hb;show(if b<e.m then ρ b else _)=_;rw[e2i (by omega),e52 (by omega)];rfl
 ·refine⟨h.frm.1,λs=>?_⟩;rw[c1o];exact VRel.ren hπ _ (h.frm.2 s)
 ·rw[ak];omega
theorem d2f{H:a08}{m b:Nat}{o':AObj}(hb:a03 (c3n m H) b=some o'):∃o,b<m∧a03 H b=some o∧o'=b9c m (a8w (a03 H) m 12) o:=by
 simp only[a03,c3n,e2e,e5g]at hb;split at hb
 case isFalse=>simp at hb
 rename_i aq;cases hx:H[b]? with
 |none=>rw[hx]at hb;simp at hb
 |some ob=>rw[hx]at hb;simp only[e2a,e63]at hb;obtain⟨o,rfl,rfl⟩:=a0g hb;exact⟨o,aq,by simp[a03,hx],rfl⟩
theorem c1p(m:Nat)(H:a08):∀(F:Frm) (s:Nat),a2h (c5t m H F) s = .junk∨a2h (c5t m H F) s=e1k m H (a2h F s)
 | [],s=>.inl (by simp[c5t,a2h])
 |(t,v)::F,s=>by
  have ih:=c1p m H F s;simp only[c5t]at ih⊢;simp only[e2b,a2h,c3l];cases h:(t==s)
  ·simpa using ih
  ·right;simp
theorem Now.frz(h:Now E e N F H I ρ a w)(j:Nat):∃I' ρ',Now E e N (c5t (e.m+j) H F) (c3n (e.m+j) H) I' ρ' a w:=by
 have ak:(c3n (e.m+j) H).length=min (e.m+j) H.length:=by simp[c3n]
 have ei:∀b o',a03 (c3n (e.m+j) H) b=some o'→∃o,b<e.m+j∧a03 H b=some o∧o'=b9c (e.m+j) (a8w (a03 H) (e.m+j) 12) o:=λb o' hb=>d2f hb;refine⟨a3m I ρ (a03 H) (e.m+j),ρ.below (e.m+j) true,λc hc=>.inl (h.imm c hc),λb hb=>?_,h.ext,?_,?_,⟨h.frm.1,λs=>?_⟩,by rw[ak];have:=h.low;omega,h.marks.mono (λ_ h=>.inl h) (λ_ _=>rfl)⟩
 ·rw[←h.map b hb];have:b<e.m+j:=by omega
  simp[PMap.below,this]
 ·exact c0r h.rel ei
 ·intro b hb;rw[ak]at hb;simp only[PMap.below];split
  ·exact h.nrel b (by omega)
  ·rfl
 ·rcases c1p (e.m+j) H F s with h1|h1
  ·rw[h1];simp[VRel]
  ·rw[h1];simp only[e1k];cases hv:a4w (e.m+j) true (a8w (a03 H) (e.m+j) 12) (a2h F s)with
   |none=>simp[VRel]
   |some v'=>exact(b00 (h':=λ_=>none) h.rel hv (h.frm.2 s) (λ_ _ h=>by cases h)).2
theorem Now.drew(h:Now E e N F H I ρ a w):Now E e N F H I ρ a { w with drawn:=w.drawn+1 }:=by
 have s:SameMem w { w with drawn:=w.drawn+1 }:=⟨rfl,rfl,rfl,rfl⟩
 exact⟨h.imm,h.map,h.ext.trans h.imm (s.ext I e.K),h.rel.same s,h.nrel,FRel.mono h.frm (λv c hv=>VRel.mono (w:=w) (w':={ w with drawn:=w.drawn+1 }) (λ_ h=>h) (λ_ _=>rfl) v (λ_ _ h=>h) hv),h.low,h.marks⟩
end
/-! ### a loop that is counted -/
theorem b2n{ro:Option Nat}{P:Program}{c:Code}{Q:Exit→Act→World→Prop}(Inv:Nat→Act→World→Prop)
 (round:∀n a w,Inv (n+1) a w→c.wpIn (wf ro) 0 P (Exit.then (Inv n) Q) a w)(zero:∀a w,¬Inv 0 a w){n:Nat}{a:Act}{w:World}(h:Inv n a w):(Code.loop c).wpIn (wf ro) 0 P Q a w:=by
 have key:∀n a w,Inv n a w→Code.roundsIn (wf ro) 0 P c Q n a w:=by
  intro n
  induction n with
  |zero=>intro a w h;exact absurd h (zero a w)
  |succ n ih=>
   intro a w hI;rw[roundsIn_succ];refine wpIn_mono (round n a w hI) ?_;intro e a w hq;cases e with
   |normal=>exact ih a w hq
   |_=>exact hq
 exact wpIn_loop_rounds n (key n a w h)
end Go.Ax
/- AxLoc: what an operation looks at: the slots of its operands, the blocks that its operands name. -/
namespace Go.Ax
section
variable {E:Env}{n:Nat}{h h':FHeap}
theorem a79{x:AV}(k:Nat)(hh:∀b∈a16 x,h b=h' b):a3b h k x=a3b h' k x:=by cases x<;>simp only[a16,e3r,forall_eq]at hh<;>simp only[a3b];rw[hh]
theorem c3c{x:AV}(t:TypeId)(hh:∀b∈a16 x,h b=h' b):b9v E h t x=b9v E h' t x:=by unfold b9v;generalize E.und t=u;cases x<;>simp only[a16,e3r,forall_eq]at hh<;>(rcases u with _|d;· rfl)<;>cases d<;>first|rfl|(simp only[hh];done)
theorem c0v{x:AV}(t:TypeId)(hh:∀b∈a16 x,h b=h' b):a7a E h t x=a7a E h' t x:=by cases x<;>simp only[a16,e3r,forall_eq]at hh<;>simp only[a7a];rw[hh]
theorem b9h{p x:AV}(t:TypeId)(hh:∀b∈a16 p,h b=h' b):a7f E h t p x=a7f E h' t p x:=by cases p<;>simp only[a16,e3r,forall_eq]at hh<;>simp only[a7f];rw[hh]
theorem b9i{x:AV}(t:TypeId)(lo hi mx:Option AV)(hh:∀b∈a16 x,h b=h' b):a3q E h t x lo hi mx=a3q E h' t x lo hi mx:=by unfold a3q;generalize E.und t=u;cases x<;>simp only[a16,e3r,forall_eq]at hh<;>(rcases u with _|d;· rfl)<;>cases d<;>first|rfl|(simp only[hh];done)
theorem b21{x:AV}(t:TypeId)(i:AV)(hh:∀b∈a16 x,h b=h' b):a1x E h t x i=a1x E h' t x i:=by unfold a1x;generalize E.und t=u;cases x<;>simp only[a16,e3r,forall_eq]at hh<;>(rcases u with _|d;· rfl)<;>cases d<;>first|rfl|(simp only[hh];done)
theorem b9n{x:AV}(hh:∀b∈a16 x,h b=h' b):b4i h x=b4i h' x:=by cases x<;>simp only[a16,e3r,forall_eq]at hh<;>simp only[b4i];rw[hh]
theorem b7j{x:AV}(t:TypeId)(k:AV)(ok:Bool)(hh:∀b∈a16 x,h b=h' b):a28 E h t x k ok=a28 E h' t x k ok:=by simp only[a28,b9n hh]
theorem a87{x:AV}(t:TypeId)(k:AV)(hh:∀b∈a16 x,h b=h' b):b4g E h t x k=b4g E h' t x k:=by unfold b4g;generalize E.und t=u;cases x<;>simp only[a16,e3r,forall_eq]at hh<;>(rcases u with _|d;· rfl)<;>cases d<;>first|rfl|(simp only[hh];done)
theorem b1g{x:AV}(s v:AV)(hh:∀b∈a16 x,h b=h' b):a4f h x s v=a4f h' x s v:=by
 unfold a4f;split
 ·rw[hh _ (by simp[a16])]
 ·rfl
theorem b7s{x:AV}(hh:∀b∈a16 x,h b=h' b):b56 h x=b56 h' x:=by cases x<;>simp only[a16,e3r,forall_eq]at hh<;>simp only[b56];rw[hh]
theorem b9p{x:AV}(t:TypeId)(k:AV)(ok:Bool)(hh:∀b∈a16 x,h b=h' b):b4j E h t x k ok=b4j E h' t x k ok:=by simp only[b4j,b7s hh]
theorem b4b{x:AV}(t:TypeId)(k v:AV)(hh:∀b∈a16 x,h b=h' b):b4u E h t x k v=b4u E h' t x k v:=by
 unfold b4u;split
 ·rw[hh _ (by simp[a16])]
 ·rfl
theorem c0w{x:AV}(t:TypeId)(k:AV)(hh:∀b∈a16 x,h b=h' b):c3f E h t x k=c3f E h' t x k:=by
 unfold c3f;split
 ·rw[hh _ (by simp[a16])]
 ·rfl
theorem b7o{x:AV}(hh:∀b∈a16 x,h b=h' b):b1h h x=b1h h' x:=by
 unfold b1h;split
 ·rw[hh _ (by simp[a16])]
 ·rfl
theorem c0u{x:AV}(s:Bool)(hh:∀b∈a16 x,h b=h' b):b1e h x s=b1e h' x s:=by
 unfold b1e;split
 ·rw[hh _ (by simp[a16])]
 ·rfl
theorem b9q{x:AV}(s d:TypeId)(hh:∀b∈a16 x,h b=h' b):a8x E h s d x=a8x E h' s d x:=by
 have key:=λk=>a79 k hh;unfold a8x;split
 ·rfl
 ·rw[key]
 ·rfl
theorem b7p{s x:AV}(st xt:TypeId)(hs:∀b∈a16 s,h b=h' b)(hx:∀b∈a16 x,h b=h' b):a44 E h n st xt s x=a44 E h' n st xt s x:=by cases s<;>simp only[a16,e3r,forall_eq]at hs<;>simp only[a44,a79 _ hx];rw[hs]
theorem c0x{d x:AV}(dt:TypeId)(hs:∀b∈a16 d,h b=h' b)(hx:∀b∈a16 x,h b=h' b):c3g E h dt d x=c3g E h' dt d x:=by cases d<;>simp only[a16,e3r,forall_eq]at hs<;>simp only[c3g,a79 _ hx];rw[hs]
theorem b9s{x:AV}(t:TypeId)(hh:∀b∈a16 x,h b=h' b):b0d E h t x=b0d E h' t x:=by unfold b0d;generalize E.und t=u;cases x<;>simp only[a16,e3r,forall_eq]at hh<;>(rcases u with _|d;· rfl)<;>cases d<;>first|rfl|(simp only[hh];done)
theorem c3h(b:Builtin)(ts:List TypeId)(args:List AV)(hh:∀b∈args.flatMap a16,h b=h' b):c9d E n h b ts args=c9d E n h' b ts args:=by
 unfold c9d;split
 ·rw[c3c _ (λb hb=>hh b (by simpa using hb))]
 ·rfl
 ·rw[b7p _ _ (λb hb=>hh b (by simp[hb])) (λb hb=>hh b (by simp[hb]))]
 ·rw[c0x _ (λb hb=>hh b (by simp[hb])) (λb hb=>hh b (by simp[hb]))]
 ·rw[b9s _ (λb hb=>hh b (by simpa using hb))]
 ·rw[c0w _ _ (λb hb=>hh b (by simp[hb]))]
 ·rfl
 ·rfl
 ·rfl
theorem c6l{op:Op}{v:Operand→AV}(hh:∀b∈a88 op v,h b=h' b):aop E n h op v=aop E n h' op v:=by
 cases op<;>simp only[a88]at hh<;>simp only[aop]
 case load=>rw[c0v _ hh]
 case store=>rw[b9h _ hh]
 case convert=>rw[b9q _ _ hh]
 case slice=>rw[b9i _ _ _ _ hh]
 case indexAddr=>rw[b21 _ _ hh]
 case lookup=>rw[b7j _ _ _ hh,b9p _ _ _ hh]
 case mapUpdate=>simp only[a0c,a87 _ _ hh,b4b _ _ _ hh]
 case insert=>simp only[a0c,a87 _ _ hh,b4b _ _ _ hh]
 case mapEntry=>simp only[b0b,a87 _ _ hh]
 case entryStore=>rw[b1g _ _ hh]
 case next=>rw[c0u _ hh]
 case entry=>rw[b7o hh]
 case call c=>
  obtain⟨callee,args,ts⟩:=c;cases callee with
  |builtin b=>simp only at hh⊢;exact c3h _ _ _ (by simpa[List.flatMap_map]using hh)
  |_=>rfl
theorem c6m{op:Op}{v v':Operand→AV}(hv:∀x∈op.operands,v x=v' x):aop E n h op v=aop E n h op v':=by
 have lE:∀ps:Array (Nat×Operand),(∀x∈(ps.toList.map (·.2)).toArray,v x=v' x)→(ps.toList.map λp=>(p.1,v p.2))=(ps.toList.map λp=>(p.1,v' p.2)):=λps hp=>e5c λp hm=>by rw[hp p.2 (by simp only[List.mem_toArray,e6q];exact⟨p,hm,rfl⟩)]
 cases op<;>simp only[Op.operands]at hv<;>simp only[aop]
 case build t ps=>rw[lE ps hv]
 case buildSlice t n ps=>rw[lE ps hv]
 case makeFunc fn first iE=>rw[e5c (l:=first.toList) λx hx=>hv x (by simp only[Array.mem_append];exact .inl (by simpa using hx)),e5c (l:=iE.toList) λx hx=>hv x (by simp only[Array.mem_append];exact .inr (by simpa using hx))]
 case call c=>
  obtain⟨callee,args,ts⟩:=c;cases callee with
  |builtin b=>simp only;rw[e5c (l:=args.toList) λx hx=>hv x (by simp only[Call.operands];simp;simpa using hx)]
  |_=>rfl
 case makeMap t r=>cases r<;>simp_all
 case slice t x lo hi mx=>cases lo<;>cases hi<;>cases mx<;>simp_all
 all_goals (first|rfl|(simp_all;done))
end
end Go.Ax
/- AxOrd: operations in any order that their edges allow: what the executed ones amount to, in b4l order. -/
namespace Go.Ax
/-! ### lists that grow at the front, numbered from the back -/
section
variable {R V:Type}
def nth:List R→Nat→Option R
 | [],_=>none
 |r::ag,j=>if j=ag.length then some r else nth ag j
def pre:List R→Nat→List R
 | [],_=>[]
 |_::ag,i=>if i=ag.length then ag else pre ag i
theorem b37:∀{l:List R} {i:Nat} {r:R},nth l i=some r→i<l.length
 | [],i,r,h=>by simp[nth]at h
 |a::ag,i,r,h=>by
  unfold nth at h;split at h
  ·simp;omega
  ·have:=b37 h;simp;omega
theorem c1j:∀{l:List R} {i:Nat},i<l.length→∃r,nth l i=some r
 | [],i,h=>by simp at h
 |a::ag,i,h=>by
  unfold nth;split
  ·exact⟨a,rfl⟩
  ·exact c1j (by simp at h;omega)
theorem b2b{a:R}{l:List R}{i:Nat}{r:R}(h:nth l i=some r):nth (a::l) i=some r:=by have:=b37 h;unfold nth;rw[e2i (by omega)];exact h
theorem b70(a:R)(l:List R):nth (a::l) l.length=some a:=by simp[nth]
def gL(o:R→Nat→Option V)(g0:Nat→V)(S:Nat→Bool):List R→Nat→V
 | []=>g0
 |r::ag=>if S ag.length then λs=>(o r s).getD (gL o g0 S ag s)else gL o g0 S ag
def a3t:Nat→Bool:=λ_=>true
def b8e(S:Nat→Bool)(i:Nat):Nat→Bool:=λj=>j==i||S j
variable {o:R→Nat→Option V}{g0:Nat→V}{S:Nat→Bool}
theorem c1q{s:Nat}:∀{l:List R},(∀j r',nth l j=some r'→(o r' s).isSome→S j=true)→gL o g0 S l s=gL o g0 a3t l s
 | [],_=>rfl
 |a::ag,h=>by
  have ih:=c1q (l:=ag) (λj r' hj=>h j r' (b2b hj));simp only[gL,a3t];cases ha:o a s with
  |none=>split<;>simp[ha,ih]
  |some v=>rw[h _ a (b70 a ag) (by simp[ha])];simp[ha]
theorem d2d{i s:Nat}{r:R}:∀{l:List R},nth l i=some r→(∀j r',nth l j=some r'→(o r' s).isSome→(j<i→S j=true)∧(i≤j→S j=false))→
 gL o g0 S l s=gL o g0 a3t (pre l i) s
 | [],h,_=>by simp[nth]at h
 |a::ag,h,hs=>by
  have lW:i≤ag.length→gL o g0 S (a::ag) s=gL o g0 S ag s:=by
   intro hi;simp only[gL];split
   ·rename_i hS;cases ha:o a s with
    |none=>simp[ha]
    |some v=>rw[(hs _ a (b70 a ag) (by simp[ha])).2 hi]at hS;cases hS
   ·rfl
  unfold nth at h;split at h
  ·rename_i hi;subst hi;rw[lW (e2c _)];simp only[pre,e78];exact c1q (λj r' hj ho=>(hs j r' (b2b hj) ho).1 (b37 hj))
  ·rename_i hi;have:=b37 h;rw[lW (by omega)];simp only[pre,e2i hi];exact d2d h (λj r' hj ho=>hs j r' (b2b hj) ho)
theorem b7a{S':Nat→Bool}:∀{l:List R},(∀j,j<l.length→S j=S' j)→gL o g0 S l=gL o g0 S' l
 | [],_=>rfl
 |a::ag,h=>by simp only[gL];rw[h ag.length (by simp),b7a (l:=ag) (λj hj=>h j (by simp;omega))]
theorem c5q{i:Nat}{r:R}:∀{l:List R},nth l i=some r→S i=false→(∀k r',nth l k=some r'→i<k→S k=true→∀s,(o r s).isSome→o r' s=none)→
 gL o g0 (b8e S i) l=λs=>(o r s).getD (gL o g0 S l s)
 | [],h,_,_=>by simp[nth]at h
 |a::ag,h,hS,hk=>by
  unfold nth at h;split at h
  ·rename_i hi;cases h;have:gL o g0 (b8e S i) ag=gL o g0 S ag:=b7a λj hj=>by simp[b8e];omega
   simp only[gL,this];subst hi;simp[b8e,hS]
  ·rename_i hi;have aq:=b37 h;have ih:=c5q h hS (λk r' hr=>hk k r' (b2b hr));simp only[gL,ih];have hp:b8e S i ag.length=S ag.length:=by simp[b8e];intro he;omega
   rw[hp];split
   ·rename_i qM
    funext s
    cases hr:o r s with
    |none=>simp
    |some v=>rw[hk _ a (b70 a ag) aq qM s (by simp[hr])];simp
   ·rfl
end
/-! ### edges -/
def a7b(all:List Oper)(S:Nat→Bool)(j:Nat):Prop:=∀o,all[j]?=some o→∀e∈o.after.toList,Region.binds .any e=true→S e.on=true
theorem b3i{all:List Oper}{S:Nat→Bool}(hS:∀j,S j=true→a7b all S j)(i:Nat):∀n j,a7b all S j→a9y all i n j=true→S i=true
 |0,j,_,h=>by simp[a9y]at h
 |n+1,j,hj,h=>by
  unfold a9y at h;split at h
  ·rename_i o ho;simp only[List.any_eq_true,b46,e6u,e6n]at h;obtain⟨e,he,hb,h⟩:=h;have pZ:=hj o ho e he hb;rcases h with rfl|h
   ·exact pZ
   ·exact b3i hS i n e.on (hS _ pZ) h
  ·cases h
theorem b5k{all:List Oper}{S:Nat→Bool}(hS:∀j,S j=true→a7b all S j){i j:Nat}(hj:a7b all S j)(h:a5h all i j=true):S i=true:=by
 unfold a5h at h;rw[e6u]at h;rcases h with h|h
 ·unfold d0f at h;split at h
  ·rename_i o ho;simp only[List.any_eq_true,b46,e6n]at h;obtain⟨e,he,hb,rfl⟩:=h;exact hj o ho e he hb
  ·cases h
 ·exact b3i hS i _ j hj h
theorem b8m{all:List Oper}{j:Nat}{y:LogE}:∀{l:List LogE},logOk.logRow all j y l.length l=true→∀i x,nth l i=some x→x.clash y=true→a5h all i j=true
 | [],_,i,x,h,_=>by simp[nth]at h
 |a::ag,hl,i,x,h,hc=>by
  simp only[b94,logOk.logRow,b46,e6u,e5i]at hl;unfold nth at h;split at h
  ·rename_i hi;cases h;subst hi;rcases hl.1 with h'|h'
   ·rw[hc]at h';cases h'
   ·exact h'
  ·exact b8m hl.2 i x h hc
theorem b2c{all:List Oper}:∀{l:List LogE},logOk all l.length l=true→∀i j x y,i<j→nth l i=some x→nth l j=some y→x.clash y=true→a5h all i j=true
 | [],_,i,j,x,y,_,h,_,_=>by simp[nth]at h
 |a::ag,hl,i,j,x,y,jz,hi,hj,hc=>by
  simp only[b94,logOk,b46]at hl;unfold nth at hj;split at hj
  ·rename_i rE;cases hj;subst rE;unfold nth at hi;rw[e2i (by omega)]at hi;exact b8m hl.1 i x hi hc
  ·have:=b37 hj;unfold nth at hi;rw[e2i (by omega)]at hi;exact b2c hl.2 i j x y jz hi hj hc
/-! ### what is asked of a region's b4l -/
def b1j(l:List Operand):List Nat:=l.filterMap λ|.tmp t=>some t|_=>none
def looks(all:List Oper)(o:Oper):List Nat:=
 b1j o.op.operands.toList++(match o.guard with
  |some (g,_)=>(a30 all g).toList
  |none=>[])
def a5d(all:List Oper)(x y:Oper):Bool:=
 (match x.dst with|some d=>(looks all y).contains d|none=>false) ||
 (match y.dst with|some d=>(looks all x).contains d|none=>false) ||
 (match x.dst,y.dst with|some d,some d'=>d==d'|_,_=>false)
def b3z(all:List Oper)(j:Nat)(y:Oper):Nat→List Oper→Bool
 |_,[]=>true
 |i,x::r=>(Nat.ble j i || !(a5d all x y)||a5h all i j)&&b3z all j y (i+1) r
def b04(all:List Oper):Nat→List Oper→Bool
 |_,[]=>true
 |j,y::r=>y.after.toList.all (λe=>!(Region.binds .any e)||Nat.blt e.on j)&&b3z all j y 0 all&&b04 all (j+1) r
def b9b(all:List Oper):Bool:=b04 all 0 all
theorem b61{all:List Oper}{j:Nat}{y:Oper}:∀{l:List Oper} {s:Nat},b3z all j y s l=true→∀i x,l[i]?=some x→s+i<j→a5d all x y=true→a5h all (s+i) j=true
 | [],s,_,i,x,h,_,_=>by simp at h
 |a::r,s,hl,0,x,h,jz,hm=>by
  simp only[b3z,b46,e6u,e5i,e5e]at hl;simp only[e29,Option.some.injEq]at h;subst h;rcases hl.1 with (h|h)|h
  ·omega
  ·rw[hm]at h;cases h
  ·exact h
 |a::r,s,hl,i+1,x,h,jz,hm=>by simp only[b3z,b46]at hl;have:=b61 hl.2 i x (by simpa using h) (by omega) hm;rw[show s+(i+1)=s+1+i by omega];exact this
theorem b3y{all:List Oper}:∀{l:List Oper} {s:Nat},b04 all s l=true→∀j y,l[j]?=some y→
 (∀e∈y.after.toList,Region.binds .any e=true→e.on<s+j)∧∀i x,all[i]?=some x→i<s+j→a5d all x y=true→a5h all i (s+j)=true
 | [],s,_,j,y,h=>by simp at h
 |a::r,s,hl,0,y,h=>by simp only[b04,b46,e3n,e6u,e5i,e3f]at hl;simp only[e29,Option.some.injEq]at h;subst h;refine⟨λe he hb=>(hl.1.1 e he).resolve_left (by simp[hb]),λi x hx hi hm=>?_⟩;have:=b61 hl.1.2 i x hx (by omega) hm;simpa using this
 |a::r,s,hl,j+1,y,h=>by simp only[b04,b46]at hl;have:=b3y hl.2 j y (by simpa using h);rw[show s+(j+1)=s+1+j by omega];exact this
theorem b05{all:List Oper}(h:b9b all=true){j:Nat}{y:Oper}(hy:all[j]?=some y) :
 (∀e∈y.after.toList,Region.binds .any e=true→e.on<j)∧∀i x,all[i]?=some x→i<j→a5d all x y=true→a5h all i j=true:=by
 have:=b3y h j y hy;simpa using this
end Go.Ax
/- AxDraw: a region that draws its order: one run in b4l order stands for a3t order. -/
namespace Go.Ax
theorem c6k{E:Env}{n n':Nat}{h:FHeap}{op:Op}{v:Operand→AV}{x:AV}{e:Eff}(ha:aop E n h op v=some (x,e))(he:e.fresh=false):aop E n' h op v=some (x,e):=by
 have su:∀st xt s y,a44 E h n st xt s y=some (x,e)→a44 E h n' st xt s y=some (x,e):=by
  intro st xt s y hy;unfold a44 at hy⊢;simp only[cond_eq_ite]at hy⊢
  repeat' split at hy
  all_goals first
   |(cases hy;done)
   |(cases hy;simp[Eff.fresh]at he;done)
   |(simp_all;done)
   |(simp_all;rename_i hh;exact hh.2)
 have qW:∀st xt s y,a3j E n st xt s y=some (x,e)→a3j E n' st xt s y=some (x,e):=by
  intro st xt s y hy;unfold a3j at hy⊢;simp only[cond_eq_ite]at hy⊢
  repeat' split at hy
  all_goals first
   |(cases hy;done)
   |(cases hy;simp[Eff.fresh]at he;done)
   |(simp_all;done)
 have blt:∀b ts args,c9d E n h b ts args=some (x,e)→c9d E n' h b ts args=some (x,e):=by
  intro b ts args hb;unfold c9d at hb⊢;split at hb
  all_goals first
   |exact hb
   |exact su _ _ _ _ hb
   |(rcases a94 hb with hb|hb<;>first|(rw[su _ _ _ _ hb];rfl)|(rw[c0z hb n' h,qW _ _ _ _ hb];rfl))
 cases op
 case alloc t=>
  simp only[aop,d3b,cond_eq_ite]at ha
  repeat' split at ha
  all_goals cases ha
  all_goals simp[Eff.fresh]at he
 case box t y=>
  simp only[aop,d3k,cond_eq_ite]at ha
  repeat' split at ha
  all_goals cases ha
  all_goals simp[Eff.fresh]at he
 case buildSlice=>
  simp only[aop,a3c,cond_eq_ite]at ha
  repeat' split at ha
  all_goals cases ha
  all_goals simp[Eff.fresh]at he
 case makeMap=>
  simp only[aop]at ha
  repeat' split at ha
  all_goals cases ha
  all_goals simp[Eff.fresh]at he
 case makeSlice=>
  simp only[aop,a3x,cond_eq_ite]at ha
  repeat' split at ha
  all_goals cases ha
  all_goals simp[Eff.fresh]at he
 case range=>
  simp only[aop]at ha;rcases a94 ha with ha|ha
  ·simp only[b4f]at ha
   repeat' split at ha
   all_goals cases ha
   all_goals simp[Eff.fresh]at he
  ·simp only[b4e,cond_eq_ite]at ha
   repeat' split at ha
   all_goals cases ha
   all_goals simp[Eff.fresh]at he
 case call c=>
  obtain⟨callee,args,ts⟩:=c;cases callee with
  |builtin b=>exact blt _ _ _ ha
  |_=>cases ha
 all_goals exact ha
structure Rec where
 dst:Option Nat
 v:AV
 ov:Nat→Option (Option AObj)
 fresh:Nat
 log:LogE
def fov(r:Rec)(s:Nat):Option AV:=if r.dst=some s then some r.v else none
def hov(r:Rec)(b:Nat):Option (Option AObj):=r.ov b
def cnt(m0:Nat):List Rec→Nat
 | []=>m0
 |r::ag=>cnt m0 ag+r.fresh
def c0h(m0:Nat)(S:Nat→Bool):List Rec→Nat→Prop
 | [],_=>False
 |r::ag,b=>(S ag.length=true∧cnt m0 ag≤b∧b<cnt m0 ag+r.fresh)∨c0h m0 S ag b
theorem c0g{m0:Nat}{S:Nat→Bool}:∀{l:List Rec} {b:Nat},c0h m0 S l b→b<cnt m0 l
 | [],b,h=>h.elim
 |r::ag,b,h=>by
  simp only[cnt];rcases h with ⟨_,_,h⟩|h
  ·exact h
  ·have:=c0g h;omega
theorem c66{m0:Nat}{i:Nat}{r:Rec}:∀{l:List Rec},nth l i=some r→cnt m0 (pre l i)+r.fresh≤cnt m0 l
 | [],h=>by simp[nth]at h
 |a::ag,h=>by
  unfold nth at h;simp only[pre,cnt];split at h
  ·rename_i hi;cases h;rw[e3g hi];omega
  ·rename_i hi;have:=c66 (m0:=m0) h;rw[e2i hi];omega
theorem c53{m0:Nat}{S:Nat→Bool}{i:Nat}{r:Rec}{b:Nat}:∀{l:List Rec},nth l i=some r→cnt m0 (pre l i)≤b→b<cnt m0 (pre l i)+r.fresh→c0h m0 S l b→S i=true
 | [],h,_,_,_=>by simp[nth]at h
 |a::ag,h,h1,h2,hm=>by
  unfold nth at h;split at h
  ·rename_i hi;cases h;simp only[pre,e3g hi]at h1 h2;rcases hm with ⟨hS,_⟩|hm
   ·rw[hi];exact hS
   ·have:=c0g hm;omega
  ·rename_i hi;simp only[pre,e2i hi]at h1 h2;have:=c66 (m0:=m0) h;rcases hm with ⟨_,ni,_⟩|hm
   ·omega
   ·exact c53 h h1 h2 hm
theorem b8j{m0:Nat}{S:Nat→Bool}{i:Nat}{r:Rec}{b:Nat}:∀{l:List Rec},nth l i=some r→(c0h m0 S l b∨(cnt m0 (pre l i)≤b∧b<cnt m0 (pre l i)+r.fresh))→c0h m0 (b8e S i) l b
 | [],h,_=>by simp[nth]at h
 |a::ag,h,hb=>by
  have mono:∀{l:List Rec},c0h m0 S l b→c0h m0 (b8e S i) l b:=by
   intro l
   induction l with
   |nil=>exact λh=>h
   |cons a ag ih=>exact λh=>h.imp (λ⟨h1,h2⟩=>⟨by simp[b8e,h1],h2⟩) ih
  unfold nth at h;rcases hb with hb|⟨du,d7⟩
  ·exact mono hb
  ·split at h
   ·rename_i hi;cases h;simp only[pre,e3g hi]at du d7;exact .inl ⟨by simp[b8e,hi],du,d7⟩
   ·rename_i hi;simp only[pre,e2i hi]at du d7;exact .inr (b8j h (.inr ⟨du,d7⟩))
structure DNow(E:Env)(e:Entry)(N m0:Nat)(C:Nat→Prop)(f:Nat→AV)(h:FHeap)(I:Nat→Prop)(ρ:PMap)(a:Act)(w:World):Prop where
 imm:∀c,e.I c→I c
 map:∀b,b<e.m→ρ b=e.ρ b
 ext:Ext e.I e.K e.w w
 rel:HRel E.G I e.K ρ h w
 nrel:∀b,m0≤b→¬C b→ρ b=none
 fin:∃M,NRel ρ M
 size:a.tmps.size=N
 frm:∀s,VRel I w ρ (f s) (a.tmps.getD s undef)
 marks:Marks e I w a.defers
def opvf(E:Env)(f:Nat→AV):Operand→AV
 |.tmp t=>f t
 |.const v=>c20 v
 |.global g=>match E.G g with|some cs=>.iptr cs|none=>.junk
 |.func f=>.func (.func f) [] []
section
variable {E:Env}{e:Entry}{N m0:Nat}{C:Nat→Prop}{f:Nat→AV}{h:FHeap}{I:Nat→Prop}{ρ:PMap}{a:Act}{w:World}
theorem DNow.opvf(d:DNow E e N m0 C f h I ρ a w)(x:Operand):VRel I w ρ (opvf E f x) (a.eval x):=by
 cases x with
 |tmp t=>exact d.frm t
 |const v=>exact b9e v
 |global g=>
  simp only[Ax.opvf,Act.eval];cases hg:E.G g with
  |none=>simp[VRel]
  |some cs=>obtain⟨h1,h2⟩:=d.rel.glob g cs hg;simp only[VRel];exact⟨g,0,rfl,h1,h2.1⟩
 |func f=>simp only[Ax.opvf,Act.eval,VRel];exact⟨#[],#[],rfl,by simp[VRels],by simp[VRels]⟩
theorem c2n{t:Nat}{l:List Operand}(h:Operand.tmp t∈l):t∈b1j l:=by simp only[b1j,List.mem_filterMap];exact⟨_,h,rfl⟩
theorem a9u{F:Frm}{l:List Operand}(hf:∀s∈b1j l,f s=a2h F s):∀x∈l,opv E F x=opvf E f x:=by
 intro x hx;cases x with
 |tmp t=>exact(hf t (c2n hx)).symm
 |_=>rfl
theorem b0w{I':Nat→Prop}{w':World}{ρ':PMap}(hv:∀(v:AV) (c:Value),VRel I w ρ v c→VRel I' w' ρ' v c)(bA:a.tmps.size=N)(hf:∀s,VRel I w ρ (f s) (a.tmps.getD s undef)){d:Option Nat}
 (hd:a5z N d=true){v:AV}{c:Value}(hc:VRel I' w' ρ' v c):∀s,VRel I' w' ρ' ((if d=some s then some v else none).getD (f s)) ((a.put d c).tmps.getD s undef):=by
 intro s;cases d with
 |none=>simpa[Act.put]using hv _ _ (hf s)
 |some d=>
  have aq:d<N:=by simpa[a5z,e3f]using hd
  simp only[Act.put,e53,e56,bA,Option.some.injEq];split
  ·subst s;simpa[aq]using hc
  ·have:=hv _ _ (hf s);simpa[e53]using this
theorem a8h{d:Option Nat}{c:Value}:(a.put d c).tmps.size=a.tmps.size:=by cases d<;>simp[Act.put]
def c3k(n:Nat):Eff→Nat→Option (Option AObj)
 |.none,_=>none
 |.new o,b=>if b=n then some (some o)else none
 |.set b0 o,b=>if b=b0 then some (some o)else none
 |.kill b0 o,b=>if b=n then some (some o)else if b=b0 then some none else none
theorem d7i(h:FHeap)(n:Nat)(e:Eff):h.eff n e=λb=>(c3k n e b).getD (h b):=by
 funext b
 cases e<;>simp only[FHeap.eff,FHeap.set,c3k]
 ·rfl
 ·split<;>rfl
 ·split<;>rfl
 ·split
  ·rfl
  ·split<;>rfl
theorem d2p{H:a08}{e:Eff}(hf:e.fits H.length=true):a03 (a9i H e)=λb=>(c3k H.length e b).getD (a03 H b):=by
 funext b
 cases e with
 |none=>rfl
 |new o=>
  simp only[a9i,a03,c3k];split
  ·subst b;simp
  ·rcases e6m b H.length with h1|h1
   ·rw[e3q h1];rfl
   ·rw[e52 (by simp;omega),e52 (by omega)];rfl
 |set b1 o=>
  have du:b1<H.length:=by simpa[Eff.fits,e3f]using hf
  simp only[a9i,a03,c3k,List.getElem?_set];split
  ·subst b;simp[du]
  ·rename_i aK;rw[e2i (λe=>aK e.symm)];rfl
 |kill b1 o=>
  have du:b1<H.length:=by simpa[Eff.fits,e3f]using hf
  simp only[a9i,a03,c3k];split
  ·subst b;rw[e3l (by simp)];simp
  ·rcases e6m b H.length with h1|h1
   ·rw[e3q (by simpa using h1),List.getElem?_set];split
    ·rename_i aK;subst aK;simp[du]
    ·rename_i aK mI;rw[e2i (λe=>mI e.symm)];rfl
   ·rw[e52 (by simp;omega),e2i (by omega),e52 h1];rfl
theorem c4w{n b:Nat}{e:Eff}(h:(c3k n e b).isSome=true):b∈e.keys n:=by
 cases e<;>simp only[c3k]at h
 ·simp at h
 ·split at h
  ·subst b;simp[Eff.keys]
  ·simp at h
 ·split at h
  ·subst b;simp[Eff.keys]
  ·simp at h
 ·split at h
  ·subst b;simp[Eff.keys]
  ·split at h
   ·subst b;simp[Eff.keys]
   ·simp at h
end
end Go.Ax
/- AxDraw2: one operation of a region that draws its order. -/
namespace Go.Ax
section
variable {E:Env}{e:Entry}{N m0:Nat}
theorem b1l{hp fF:FHeap}{σ:List Nat}(h:∀b∈σ,hp b=fF b):a5c hp σ=a5c fF σ:=by unfold a5c;exact e5c λb hb=>by rw[h b hb]
def b7q(E:Env)(ro:Option Nat)(e:Entry)(N m0 n:Nat)(o:Oper)(fp:Nat→AV)(hp:FHeap)(v:AV)(ov:Nat→Option (Option AObj))(fresh:Nat)(l:LogE):Prop:=
 ∀{C:Nat→Prop} {f:Nat→AV} {h:FHeap} {I:Nat→Prop} {ρ:PMap} {a:Act} {w:World},DNow E e N m0 C f h I ρ a w→(∀s∈b1j o.op.operands.toList,f s=fp s)→(∀b∈l.needs,h b=hp b)→(∀b,n≤b→b<n+fresh→¬C b)→
  ∀{K:Act→World→Prop} {Q:Exit→Act→World→Prop},(∀I' ρ' a' w',DNow E e N m0 (λb=>C b∨(n≤b∧b<n+fresh)) (λs=>((if o.dst=some s then some v else none).getD (f s))) (λb=>(ov b).getD (h b)) I' ρ' a' w'→K a' w')→
   o.wpIn (wf ro) 0 E.P a w K Q
def Eff.nf(e:Eff):Nat:=if e.fresh=true then 1 else 0
theorem c92(ok:EnvOk E){ro:Option Nat}{F:Frm}{H:a08}{o:Oper}{v:AV}{eff:Eff}(ei:e.m≤m0)(ev:m0≤H.length)(hd:a5z N o.dst=true)(ha:aop E H.length (a03 H) o.op (opv E F)=some (v,eff)) :
 b7q E ro e N m0 H.length o (a2h F) (a03 H) v (c3k H.length eff) eff.nf ⟨a88 o.op (opv E F),eff.keys H.length⟩:=by
 intro C f h I ρ a w ae hf hh hC K Q hK;have dc:=a9u (E:=E) hf;have nS:∀x∈o.op.operands,opv E F x=opvf E f x:=λx hx=>dc x (by simpa using hx);have nk:aop E H.length h o.op (opvf E f)=some (v,eff):=by rw[←c6m nS,c6l (h':=a03 H) hh];exact ha
 obtain⟨M,hM⟩:=ae.fin;obtain⟨n',aY,hρ',oE⟩:∃n',(eff.fresh=true→n'=H.length)∧ρ n'=none∧aop E n' h o.op (opvf E f)=some (v,eff):=by
  cases iI:eff.fresh with
  |true=>exact⟨H.length,λ_=>rfl,ae.nrel _ ev (hC _ (e2c _) (by simp[Eff.nf,iI])),nk⟩
  |false=>exact⟨M,(by simp),hM _ (e2c _),c6k nk iI⟩
 have dV:h n'=none:=by
  cases hx:h n' with
  |none=>rfl
  |some ob=>obtain⟨m,h1,_⟩:=ae.rel.live _ _ hx;rw[hρ']at h1;cases h1
 obtain⟨x,w',c,ρ',ac,hx,step,hv,hm⟩:=d0n ok ae.rel dV hρ' oE ae.opvf;have hov:h.eff n' eff=λb=>(c3k H.length eff b).getD (h b):=by
  rw[d7i];cases iI:eff.fresh with
  |true=>rw[aY iI]
  |false=>cases eff<;>simp[Eff.fresh]at iI<;>rfl
 have iU:∀b,(eff.fresh=true→b≠H.length)→ρ' b=ρ b:=by
  intro b hb;cases iI:eff.fresh with
  |true=>exact hm.1 b (by rw[aY iI];exact hb iI)
  |false=>rw[hm.2 iI]
 have bu:DNow E e N m0 (λb=>C b∨(H.length≤b∧b<H.length+eff.nf)) (λs=>((if o.dst=some s then some v else none).getD (f s))) (λb=>(c3k H.length eff b).getD (h b)) I ρ' (a.put o.dst c) w':=by
  refine⟨ae.imm,λb hb=>?_,ae.ext.trans ae.imm step.ext,hov▸step.rel,λb hb hc=>?_,⟨max M (H.length+1),λb hb=>?_⟩,by rw[a8h];exact ae.size,?_,by rw[a33];exact ae.marks.mono (λ_ h=>h) (λc hc=>step.ext.keep c (.inl hc))⟩
  ·rw[iU b (λ_=>by omega)];exact ae.map b hb
  ·rw[iU b (λhf he=>hc (.inr (by simp only[Eff.nf,hf,e78];omega)))];exact ae.nrel b hb (λh=>hc (.inl h))
  ·rw[iU b (λ_=>by omega)];exact hM b (by omega)
  ·exact b0w (λv c hv=>step.vrel hv) ae.size ae.frm hd hv
 refine a4t (b4h ha) ?_;rw[ac];rcases hx with rfl|⟨rfl,rfl⟩
 ·rw[Oper.uponIn_value];exact hK I ρ' _ _ bu
 ·rw[Oper.uponIn_skip];exact hK I ρ' _ _ bu
theorem c6a{g:FuncId}{run:List AV→a08→Option (AV×a08)}(ac:a4h E g run){args:List AV}{H H':a08}{v:AV}{σ:List Nat}
 (am:a2u run args H=some (v,H',σ))(ak:H'.length=H.length) :
 ∃ov:Nat→Option (Option AObj),(a03 H'=λb=>(ov b).getD (a03 H b))∧(∀b,(ov b).isSome=true→b∈σ)∧
  ∀{I K:Nat→Prop} {ρ:PMap} {h:FHeap} {w:World} {ah:List Value},HRel E.G I K ρ h w→(∀b∈σ,h b=a03 H b)→VRels I w ρ args ah→
   XOf E g ah w λen w'=>∃c I',en = .returned c∧(∀c,I c→I' c)∧Ext I K w w'∧HRel E.G I' K ρ (λb=>(ov b).getD (h b)) w'∧VRel I' w' ρ v c:=by
 unfold a2u at am;simp only at am;generalize hσ:a0j H a3n (a0x args) []=σ' at am;rw[cond_eq_ite]at am;split at am
 case isFalse=>cases am
 rename_i hc;simp only[b46,e3n,e3f]at hc;obtain⟨dl,aq⟩:=hc;have dl:=a54 dl;split at am
 case h_2=>cases am
 rename_i v1 H1 hr;simp only[Option.some.injEq,Prod.mk.injEq]at am;obtain⟨rfl,rfl,rfl⟩:=am;have j9:run (args.map (ren (a2w σ'))) (a5c (a03 H) σ')=some (v1,H1):=hr;have ul:H1.length≤σ'.length:=by simp only[e2f,a1b,b41,e79]at ak;omega
 refine⟨λb=>(σ'.idxOf? b).map λj=>(a03 H1 j).map (a0t (a1e σ' H.length)),?_,?_,?_⟩
 ·funext b
  simp only[a03];rcases e6m b H.length with hb|hb
  ·rw[e3q (by rw[a1b];exact hb),a6u];simp only[e55];rw[z9e hb];cases hx:σ'.idxOf? b<;>simp[a03]
  ·rw[e52 (by simp only[e2f,a1b,b41,e79];omega),e52 hb];cases hx:σ'.idxOf? b with
   |none=>rfl
   |some j=>have:=aq b (e25 (a2t hx));omega
 ·intro b hb;dsimp only at hb;cases hx:σ'.idxOf? b with
  |none=>rw[hx]at hb;simp at hb
  |some j=>exact e25 (a2t hx)
 ·intro I K ρ h w ah rel hh ha;have j8:run (args.map (ren (a2w σ'))) (a5c h σ')=some (v1,H1):=by rw[b1l hh];exact j9
  refine XOf.mono (b7f ac j8 rel dl ha) ?_
  rintro en w' ⟨c,I1,ρ1,rfl,aB,hv⟩
  have dD:∀j b m,a1e σ' H.length j=some b→ρ1 j=some m→ρ b=some m:=by
   intro j b m hj hm;rcases e6m j σ'.length with dq|dq
   ·simp only[a1e]at hj;rw[cond_eq_ite,e3g (by simpa[e3f]using dq)]at hj;have:=aB.map j dq;rw[hm,hj]at this;exact this.symm
   ·rw[aB.nrel j (by omega)]at hm;cases hm
  refine⟨c,I1,rfl,aB.imm,aB.ext.keepLess (λc hc=>.inl hc),?_,VRel.ren dD v1 hv⟩;refine b2k rel dl aB (λ_ _ h=>h) dD (λb m hb=>.inl hb) ?_;intro b o hb;dsimp only at hb;cases hx:σ'.idxOf? b with
  |none=>rw[hx]at hb;exact .inl ⟨b14 hx,hb⟩
  |some j=>rw[hx]at hb;simp only[e2a,e64]at hb;obtain⟨o1,cH,rfl⟩:=a0g hb;have hσj:=a2t hx;refine .inr ⟨j,o1,?_,cH,rfl⟩;simp only[a1e];rw[cond_eq_ite,e3g (by simpa[e3f]using(e26.1 hσj).1)];exact hσj
theorem c8v{g:FuncId}{run:List AV→a08→Option (AV×a08)}(ac:a4h E g run){args:List AV}{H H':a08}{v:AV}{σ:List Nat}
 (am:a2u run args H=some (v,H',σ)){q:Nat}(ak:H'.length=H.length+q) :
 ∃ov:Nat→Option (Option AObj),(a03 H'=λb=>(ov b).getD (a03 H b))∧(∀b,(ov b).isSome=true→b∈σ++List.range' H.length q)∧
  ∀{I K:Nat→Prop} {ρ:PMap} {h:FHeap} {w:World} {ah:List Value},HRel E.G I K ρ h w→(∀b,H.length≤b→b<H.length+q→ρ b=none)→(∀b∈σ,h b=a03 H b)→VRels I w ρ args ah→
   XOf E g ah w λen w'=>∃c I' ρ',en = .returned c∧(∀c,I c→I' c)∧Ext I K w w'∧(∀b,¬(H.length≤b∧b<H.length+q)→ρ' b=ρ b)∧HRel E.G I' K ρ' (λb=>(ov b).getD (h b)) w'∧VRel I' w' ρ' v c:=by
 unfold a2u at am;simp only at am;generalize hσ:a0j H a3n (a0x args) []=σ' at am;rw[cond_eq_ite]at am;split at am
 case isFalse=>cases am
 rename_i hc;simp only[b46,e3n,e3f]at hc;obtain⟨dl,aq⟩:=hc;have dl:=a54 dl;split at am
 case h_2=>cases am
 rename_i v1 H1 hr;simp only[Option.some.injEq,Prod.mk.injEq]at am;obtain⟨rfl,rfl,rfl⟩:=am;have j9:run (args.map (ren (a2w σ'))) (a5c (a03 H) σ')=some (v1,H1):=hr;have ul:H1.length-σ'.length=q:=by simp only[e2f,a1b,b41,e79]at ak;omega
 refine⟨λb=>if H.length≤b∧b<H.length+q then some ((a03 H1 (σ'.length+(b-H.length))).map (a0t (a1e σ' H.length)))else(σ'.idxOf? b).map λj=>(a03 H1 j).map (a0t (a1e σ' H.length)),?_,?_,?_⟩
 ·funext b
  simp only[a03];rcases e6m b H.length with hb|hb
  ·rw[e3q (by rw[a1b];exact hb),a6u,e2i (by omega)];simp only[e55];rw[z9e hb];cases hx:σ'.idxOf? b<;>simp[a03]
  ·rw[e3l (by rw[a1b];exact hb),a1b,e2e,e6h];by_cases he:b<H.length+q
   ·rw[e3g ⟨hb,he⟩];cases hx:H1[σ'.length+(b-H.length)]? with
    |none=>simp[hx]
    |some ob=>simp[hx]
   ·rw[e2i (by omega),e52 (by omega),e52 hb];cases hx:σ'.idxOf? b with
    |none=>rfl
    |some j=>have:=aq b (e25 (a2t hx));omega
 ·intro b hb;dsimp only at hb;by_cases he:H.length≤b∧b<H.length+q
  ·exact List.mem_append_right _ (by rw[List.mem_range'_1];exact he)
  ·rw[e2i he]at hb;cases hx:σ'.idxOf? b with
   |none=>rw[hx]at hb;simp at hb
   |some j=>exact List.mem_append_left _ (e25 (a2t hx))
 ·intro I K ρ h w ah rel hn hh ha;have j8:run (args.map (ren (a2w σ'))) (a5c h σ')=some (v1,H1):=by rw[b1l hh];exact j9
  refine XOf.mono (b7f ac j8 rel dl ha) ?_
  rintro en w' ⟨c,I1,ρ1,rfl,aB,hv⟩
  have ei:=aB.low;have dD:∀j b m,a1e σ' H.length j=some b→ρ1 j=some m→(if H.length≤b∧b<H.length+q then ρ1 (σ'.length+(b-H.length))else ρ b)=some m:=by
   intro j b m hj hm;simp only[a1e]at hj;rw[cond_eq_ite]at hj;split at hj
   ·rename_i dq;have dq:j<σ'.length:=by simpa[e3f]using dq
    have hb:=aq b (e25 hj);rw[e2i (by omega)];have:=aB.map j dq;rw[hm,hj]at this;exact this.symm
   ·rename_i dq;have dq:σ'.length≤j:=by simpa[e3f]using dq
    cases hj;by_cases he:j-σ'.length<q
    ·rw[e3g (by omega),show σ'.length+(H.length+(j-σ'.length)-H.length)=j by omega];exact hm
    ·rw[aB.nrel j (by omega)]at hm;cases hm
  have a8:∀b m,ρ b=some m→(if H.length≤b∧b<H.length+q then ρ1 (σ'.length+(b-H.length))else ρ b)=some m:=by intro b m hb;rw[e2i (λe=>by rw[hn b e.1 e.2]at hb;cases hb)];exact hb
  refine⟨c,I1,λb=>if H.length≤b∧b<H.length+q then ρ1 (σ'.length+(b-H.length))else ρ b,rfl,aB.imm,aB.ext.keepLess (λc hc=>.inl hc),λb hb=>e2i hb,?_,VRel.ren dD v1 hv⟩;refine b2k rel dl aB a8 dD ?_ ?_
  ·intro b m hb;split at hb
   ·exact .inr ⟨_,hb⟩
   ·exact .inl hb
  intro b o hb;dsimp only at hb;by_cases he:H.length≤b∧b<H.length+q
  ·rw[e3g he,e64]at hb;obtain⟨o1,cH,rfl⟩:=a0g hb;refine .inr ⟨σ'.length+(b-H.length),o1,?_,cH,rfl⟩;simp only[a1e];rw[cond_eq_ite,e2i (by simp[e3f])]
   congr 1;omega
  rw[e2i he]at hb;cases hx:σ'.idxOf? b with
  |none=>rw[hx]at hb;exact .inl ⟨b14 hx,hb⟩
  |some j=>rw[hx]at hb;simp only[e2a,e64]at hb;obtain⟨o1,cH,rfl⟩:=a0g hb;have hσj:=a2t hx;refine .inr ⟨j,o1,?_,cH,rfl⟩;simp only[a1e];rw[cond_eq_ite,e3g (by simpa[e3f]using(e26.1 hσj).1)];exact hσj
theorem c47(ok:EnvOk E){ro:Option Nat}{call:FuncId→List AV→a08→Option (AV×a08)}(am:a3d E call){F:Frm}{H H':a08}{o:Oper}{v:AV}{l:LogE}(ei:e.m≤m0)(ev:m0≤H.length)
 (hs:a1c E true call F H o.op=some (v,H',l))(hd:a5z N o.dst=true) :
 ∃ov fresh,(a03 H'=λb=>(ov b).getD (a03 H b))∧H'.length=H.length+fresh∧(∀b,(ov b).isSome=true→b∈l.keys)∧b7q E ro e N m0 H.length o (a2h F) (a03 H) v ov fresh l:=by
 unfold a1c at hs;split at hs
 ·rename_i f args fB cV;split at hs
  case h_2=>cases hs
  rename_i v' H1 σ bC;cases hs
  -- what is called,in whatever state
  have tail:∀(g:FuncId) (as:List AV),a2u (call g) as H=some (v,H',σ)→(H.length≤H'.length)→(a6d E (opv E F f) H H' σ=true→∀b∈σ,a03 H b=a03 H' b)→
   (∀{C:Nat→Prop} {f':Nat→AV} {h:FHeap} {I:Nat→Prop} {ρ:PMap} {a:Act} {w:World},DNow E e N m0 C f' h I ρ a w→(∀s∈b1j o.op.operands.toList,f' s=a2h F s)→
    ∃ah,VRels I w ρ as ah∧∀{R:Ending→World→Prop},XOf E g ah w R→∀{K:Act→World→Prop} {Q:Exit→Act→World→Prop},(∀en w',R en w'→∃c,en = .returned c∧K (a.put o.dst c) w')→o.wpIn (wf ro) 0 E.P a w K Q)→
   ∃ov fresh,(a03 H'=λb=>(ov b).getD (a03 H b))∧H'.length=H.length+fresh∧(∀b,(ov b).isSome=true→b∈b4q (a6d E (opv E F f) H H' σ) σ H.length H'.length)∧
    b7q E ro e N m0 H.length o (a2h F) (a03 H) v ov fresh ⟨σ,b4q (a6d E (opv E F f) H H' σ) σ H.length H'.length⟩:=by
   intro g as fw ak pS T;by_cases bu:H'.length≠H.length
   ·have hq:H'.length=H.length+(H'.length-H.length):=by omega
    generalize H'.length-H.length=q at hq;have hk:b4q (a6d E (opv E F f) H H' σ) σ H.length H'.length=σ++List.range' H.length q:=by unfold b4q;rw[cond_eq_ite,e2i (by rw[e5a];omega),show H'.length-H.length=q by omega]
    obtain⟨ov,h1,h2,h3⟩:=c8v (am g) fw hq;refine⟨ov,q,h1,hq,by rw[hk];exact h2,?_⟩;intro C f' h I ρ a w ae hf hh hC K Q hK;obtain⟨ah,aV,tr⟩:=T ae hf;have dV:∀b,H.length≤b→b<H.length+q→ρ b=none:=λb h1 h2=>ae.nrel b (by omega) (hC b h1 h2);refine tr (h3 ae.rel dV hh aV) ?_
    rintro en w' ⟨c,I',ρ',rfl,hI,dP,hρ',cO,gG⟩
    refine⟨c,rfl,?_⟩;obtain⟨M,hM⟩:=ae.fin;have a8:∀b m,ρ b=some m→ρ' b=some m:=by intro b m hb;rw[hρ' b (λe=>by rw[dV b e.1 e.2]at hb;cases hb)];exact hb
    refine hK I' ρ' _ _ ⟨λc hc=>hI c (ae.imm c hc),λb hb=>?_,ae.ext.trans ae.imm dP,cO,λb hb hc=>?_,⟨max M (H.length+q),λb hb=>?_⟩,by rw[a8h];exact ae.size,?_,by rw[a33];exact ae.marks.mono hI (λc hc=>dP.keep c (.inl hc))⟩
    ·rw[hρ' b (by omega)];exact ae.map b hb
    ·rw[hρ' b (λe=>hc (.inr e))];exact ae.nrel b hb (λh=>hc (.inl h))
    ·rw[hρ' b (by omega)];exact hM b (by omega)
    ·exact b0w (λv c hv=>VRel.mono hI (λc hc=>dP.keep c (.inl hc)) v a8 hv) ae.size ae.frm hd gG
   have ak:H'.length=H.length:=Classical.not_not.1 bu;have hk:b4q (a6d E (opv E F f) H H' σ) σ H.length H'.length=(bif a6d E (opv E F f) H H' σ then[]else σ):=by unfold b4q;rw[ak,cond_eq_ite,e3g (by rw[e5a])]
   rw[hk];obtain⟨ov,h1,h2,h3⟩:=c6a (am g) fw ak;obtain⟨ov,h1,h2,h3⟩:∃ov:Nat→Option (Option AObj),(a03 H'=λb=>(ov b).getD (a03 H b))∧(∀b,(ov b).isSome=true→b∈(bif a6d E (opv E F f) H H' σ then[]else σ))∧
    ∀{I K:Nat→Prop} {ρ:PMap} {h:FHeap} {w:World} {ah:List Value},HRel E.G I K ρ h w→(∀b∈σ,h b=a03 H b)→VRels I w ρ as ah→
     XOf E g ah w λen w'=>∃c I',en = .returned c∧(∀c,I c→I' c)∧Ext I K w w'∧HRel E.G I' K ρ (λb=>(ov b).getD (h b)) w'∧VRel I' w' ρ v c:=by
    cases mC:a6d E (opv E F f) H H' σ with
    |false=>exact⟨ov,h1,h2,h3⟩
    |true=>
     have dT:∀b∈σ,a03 H b=a03 H' b:=pS mC;have bP:∀b x,ov b=some x→x=a03 H b:=by intro b x hx;have e1:=dT b (h2 b (by rw[hx];rfl));rw[h1]at e1;simp only[hx,e64]at e1;exact e1.symm
     refine⟨λ_=>none,?_,λb hb=>by simp at hb,?_⟩
     ·rw[h1];funext b
      cases hx:ov b with
      |none=>rfl
      |some x=>simp only[e64,Option.getD_none];exact bP b x hx
     ·intro I K ρ h w ah cO hh ha;have e:(λb=>(ov b).getD (h b))=h:=by
       funext b
       cases hx:ov b with
       |none=>rfl
       |some x=>simp only[e64];rw[bP b x hx,hh b (h2 b (by rw[hx];rfl))]
      refine XOf.mono (h3 cO hh ha) ?_
      rintro en w' ⟨c,I',r1,r2,r3,r4,r5⟩
      rw[e]at r4;exact⟨c,I',r1,r2,r3,by simpa using r4,r5⟩
   refine⟨ov,0,h1,ak,h2,?_⟩;intro C f' h I ρ a w ae hf hh hC K Q hK;obtain⟨ah,aV,tr⟩:=T ae hf;refine tr (h3 ae.rel hh aV) ?_
   rintro en w' ⟨c,I',rfl,hI,dP,cO,gG⟩
   refine⟨c,rfl,?_⟩;refine hK I' ρ _ _ ⟨λc hc=>hI c (ae.imm c hc),ae.map,ae.ext.trans ae.imm dP,cO,λb hb hc=>ae.nrel b hb (λh=>hc (.inl h)),ae.fin,by rw[a8h];exact ae.size,?_,by rw[a33];exact ae.marks.mono hI (λc hc=>dP.keep c (.inl hc))⟩;exact b0w (λv c hv=>VRel.mono hI (λc hc=>dP.keep c (.inl hc)) v (λ_ _ h=>h) hv) ae.size ae.frm hd gG
  have lens:¬((true && !(Nat.ble H.length H'.length))=true)→H.length≤H'.length:=by intro h;simpa only[e6d,e5i,Bool.not_eq_false,e5e]using h
  unfold a0e at bC;split at bC
  case h_3=>cases bC
  case h_2=>
   rename_i b kq;split at bC
   case h_2=>cases bC
   rename_i nq H2 σ2 fw;rw[cond_eq_ite]at bC;split at bC
   case isTrue=>cases bC
   rename_i ak;cases bC;refine tail yId _ fw (lens ak) (λh=>by rw[kq]at h;simp[a6d]at h) ?_;intro C f' h I ρ a w ae hf;have dc:=a9u (E:=E) hf;rw[cV]at dc;have bY:=ae.opvf f;rw[←dc f (by simp[Op.operands,Call.operands]),kq]at bY;simp only[VRel]at bY;obtain⟨m,hm,fJ⟩:=bY;have aV:args.toList.map (opv E F)=args.toList.map (opvf E f'):=e5c λx hx=>dc x (by simp[Op.operands,Call.operands];exact .inr (by simpa using hx));refine⟨.func (.yield m.blk) #[] #[]::(args.map a.eval).toList,?_,?_⟩
   ·simp only[VRels];refine⟨_,_,rfl,by simp only[VRel];exact⟨m,hm,rfl⟩,?_⟩;rw[e5t,aV];exact a39 ae.opvf args.toList
   ·intro R hc K Q hK;rw[d3o]at hc;obtain⟨l,vs,fn,tmps,asg,body,he,hy,hr⟩:=hc;simp only[List.cons.injEq,Value.func.injEq,Fn.yield.injEq,and_true]at he;obtain⟨hl,rfl⟩:=he;have bU:(args.map a.eval).toList.toArray=args.map a.eval:=by apply e6c;simp
    rw[bU]at hy;refine a4t (by rw[cV];intro c hc;cases hc) ?_;rw[b5y cV fJ,hl,hy];refine b57 (hr.mono ?_);intro en w' hR;obtain⟨c,rfl,hk⟩:=hK en w' hR;exact hk
  rename_i g fs cs kq
  -- the operands in another state
  have kJ:∀{C:Nat→Prop} {f':Nat→AV} {h:FHeap} {I:Nat→Prop} {ρ:PMap} {a:Act} {w:World},DNow E e N m0 C f' h I ρ a w→(∀s∈b1j o.op.operands.toList,f' s=a2h F s)→
   ∃di aT,a.eval f = .func (.func g) di aT∧VRels I w ρ (fs++args.toList.map (opv E F)++cs) (di++args.map a.eval++aT).toList:=by
   intro C f' h I ρ a w ae hf;have dc:=a9u (E:=E) hf;rw[cV]at dc;have bY:=ae.opvf f;rw[←dc f (by simp[Op.operands,Call.operands]),kq]at bY;simp only[VRel]at bY;obtain⟨di,aT,fJ,gJ,dp⟩:=bY;have aV:args.toList.map (opv E F)=args.toList.map (opvf E f'):=e5c λx hx=>dc x (by simp[Op.operands,Call.operands];exact .inr (by simpa using hx));refine⟨di,aT,fJ,?_⟩;simp only[e6z,e5t];rw[aV];exact VRels.append (VRels.append gJ (a39 ae.opvf args.toList)) dp
  rw[cond_eq_ite]at bC;split at bC
  ·rename_i dP;rw[cond_eq_ite]at bC;split at bC
   ·rename_i hg;obtain⟨hH,hσ,an,v0,H1,e1,e2,e3,e4⟩:=b3e bC;subst hH;refine⟨λ_=>none,0,rfl,rfl,by simp,?_⟩;intro C f' h I ρ a w ae hf hh hC K Q hK;obtain⟨di,aT,fJ,aV⟩:=kJ ae hf;have hB:∀b o,a03 H' b=some o→h b=some o:=by
     intro b o hb;have aq:b<H'.length:=by
      rcases e6m b H'.length with h'|h'
      ·exact h'
      ·simp[a03,e52 h']at hb
     rw[hh b (by rw[hσ];exact List.mem_range.2 aq)];exact hb
    have hc:=b8r (am g) hB ae.rel aV e1 e2 e3 e4;obtain⟨i,hi⟩:=e24.1 hg;rw[a3l (b20 ok hi)]at hc;have bU:(di++args.map a.eval++aT).toList.toArray=di++args.map a.eval++aT:=by apply e6c;simp
    rw[bU]at hc;refine a4t (by rw[cV];intro c hc;cases hc) ?_;rw[a5i cV fJ,a1u ok hg];refine a4b (Calls.mono hc ?_)
    rintro en w' ⟨c,I',rfl,hI,ku,cO,gG⟩
    refine hK I' ρ _ _ ⟨λc hc=>hI c (ae.imm c hc),ae.map,ae.ext.trans ae.imm ku,cO,λb hb hc=>ae.nrel b hb (λh=>hc (.inl h)),ae.fin,by rw[a8h];exact ae.size,?_,by rw[a33];exact ae.marks.mono hI (λc hc=>ku.keep c (.inl hc))⟩;exact b0w (λv c hv=>VRel.mono hI (λc hc=>ku.keep c (.inl hc)) v (λ_ _ h=>h) hv) ae.size ae.frm hd gG
   rename_i cI;split at bC
   case h_2=>cases bC
   rename_i nq mq;cases bC;refine⟨λ_=>none,0,rfl,rfl,by simp,?_⟩;intro C f' h I ρ a w ae hf hh hC K Q hK;obtain⟨di,aT,fJ,aV⟩:=kJ ae hf;obtain⟨c,ac,gG⟩:=b1v (E:=E) (w:=w) ok dP (by simpa using cI) mq aV;have bU:(di++args.map a.eval++aT).toList.toArray=di++args.map a.eval++aT:=by apply e6c;simp
   rw[bU]at ac;refine a4t (by rw[cV];intro c hc;cases hc) ?_;rw[a5i cV fJ,ac,Oper.uponIn_value];refine hK I ρ _ _ ⟨ae.imm,ae.map,ae.ext,ae.rel,λb hb hc=>ae.nrel b hb (λh=>hc (.inl h)),ae.fin,by rw[a8h];exact ae.size,?_,by rw[a33];exact ae.marks⟩;exact b0w (λ_ _ h=>h) ae.size ae.frm hd gG
  ·rw[cond_eq_ite]at bC;split at bC
   case isFalse=>cases bC
   rename_i hg;split at bC
   case h_2=>cases bC
   rename_i nq H2 σ2 fw;rw[cond_eq_ite]at bC;split at bC
   case isTrue=>cases bC
   rename_i ak;cases bC;refine tail g _ fw (lens ak) ?_ ?_
   ·intro mC;rw[kq]at mC;simp only[a6d,b46,e3n]at mC;exact λb hb=>c19 _ _ (mC.2 b hb)
   intro C f' h I ρ a w ae hf;obtain⟨di,aT,fJ,aV⟩:=kJ ae hf;refine⟨_,aV,?_⟩;intro R hc K Q hK;obtain⟨i,hi⟩:=e24.1 hg;rw[a3l (b20 ok hi)]at hc;have bU:(di++args.map a.eval++aT).toList.toArray=di++args.map a.eval++aT:=by apply e6c;simp
   rw[bU]at hc;refine a4t (by rw[cV];intro c hc;cases hc) ?_;rw[a5i cV fJ,a1u ok hg];refine a4b (Calls.mono hc ?_);intro en w' hR;obtain⟨c,rfl,hk⟩:=hK en w' hR;exact hk
 ·split at hs
  case h_2=>cases hs
  rename_i v' eff ha;rw[cond_eq_ite]at hs;split at hs
  case isFalse=>cases hs
  rename_i cG;cases hs;refine⟨c3k H.length eff,eff.nf,d2p cG,?_,λb hb=>c4w hb,c92 ok ei ev hd ha⟩;rw[a9a];unfold Eff.nf;split<;>rfl
end
end Go.Ax
/- AxDraw3: the whole of a region that draws its order. -/
namespace Go.Ax
section
variable {E:Env}{e:Entry}{N m0:Nat}{au:Array Oper}{Q:Exit→Act→World→Prop}{f0:Nat→AV}{h0:FHeap}
structure RecOk(E:Env)(ro:Option Nat)(e:Entry)(N m0:Nat)(au:Array Oper)(Q:Exit→Act→World→Prop)(f0:Nat→AV)(h0:FHeap)(p:List Rec)(i:Nat)(r:Rec):Prop where
 dst:∀o,au[i]?=some o→r.dst=o.dst
 keys:∀b,(r.ov b).isSome=true→b∈r.log.keys
 good:∀{C:Nat→Prop} {f:Nat→AV} {h:FHeap} {I:Nat→Prop} {ρ:PMap} {a:Act} {w:World},DNow E e N m0 C f h I ρ a w→(∀o,au[i]?=some o→∀s∈looks au.toList o,f s=gL fov f0 a3t p s)→
  (∀b∈r.log.needs,h b=gL hov h0 a3t p b)→(∀b,cnt m0 p≤b→b<cnt m0 p+r.fresh→¬C b)→
  ∀{K:Act→World→Prop},(∀I' ρ' a' w',DNow E e N m0 (λb=>C b∨(cnt m0 p≤b∧b<cnt m0 p+r.fresh)) (λs=>(fov r s).getD (f s)) (λb=>(hov r b).getD (h b)) I' ρ' a' w'→K a' w')→wpOpIn (wf ro) 0 E.P au Q i K a w
def RecsOk(E:Env)(ro:Option Nat)(e:Entry)(N m0:Nat)(au:Array Oper)(Q:Exit→Act→World→Prop)(f0:Nat→AV)(h0:FHeap)(aS:List Rec):Prop:=∀i r,nth aS i=some r→RecOk E ro e N m0 au Q f0 h0 (pre aS i) i r
theorem RecsOk.cons{ro:Option Nat}{aS:List Rec}{r:Rec}(h:RecsOk E ro e N m0 au Q f0 h0 aS)(hr:RecOk E ro e N m0 au Q f0 h0 aS aS.length r):RecsOk E ro e N m0 au Q f0 h0 (r::aS):=by
 intro i r' hi;unfold nth at hi;simp only[pre];split at hi
 ·rename_i he;cases hi;rw[e3g he,he];exact hr
 ·rename_i he;rw[e2i he];exact h i r' hi
theorem c21:∀{l:List Rec},m0≤cnt m0 l
 | []=>e2c _
 |r::ag=>by have:=c21 (l:=ag);simp only[cnt];omega
theorem c11{I:Nat→Prop}{w:World}{ρ:PMap}{a:Act}{v:AV}{j d:Nat}(hg:a30 au.toList j=some d)(hv:VRel I w ρ v (a.tmps.getD d undef)) :
 (∀b,v = .bool b→yielded au a.tmps j=some b)∧(v = .tuple []→yielded au a.tmps j=none):=by
 have hd:(au[j]?).bind (·.dst)=some d:=by simpa[a30]using hg
 have cW:∀c,a.tmps.getD d undef=c→c≠undef→a.tmps[d]?=some c:=by
  intro c hc aK;rw[e53]at hc;cases hx:a.tmps[d]? with
  |none=>rw[hx]at hc;exact absurd hc.symm aK
  |some x=>rw[hx]at hc;simpa using hc
 refine⟨λb hb=>?_,λhb=>?_⟩
 ·rw[hb]at hv;simp only[VRel]at hv;have:=cW _ hv (by simp[undef]);simp[yielded,hd,this]
 ·rw[hb]at hv;simp only[VRel]at hv;obtain⟨cs,hc,dp⟩:=hv;unfold yielded;rw[hd];simp only[e5u];rw[e53]at hc;cases hx:a.tmps[d]? with
  |none=>rfl
  |some x=>rw[hx]at hc;simp only[e64]at hc;rw[hc]
theorem b8k{o:Oper}{s:Nat}(h:s∈b1j o.op.operands.toList):s∈looks au.toList o:=List.mem_append_left _ h
theorem c0i{o:Oper}{j d:Nat}{bQ:Bool}(hg:o.guard=some (j,bQ))(hs:a30 au.toList j=some d):d∈looks au.toList o:=by simp[looks,hg,hs]
theorem a6s{post:List Oper}(ok:EnvOk E){ro:Option Nat}{call:FuncId→List AV→a08→Option (AV×a08)}(am:a3d E call)(ei:e.m≤m0){R:Type}{k:Frm→a08→Option R}{r:R} :
 ∀(ag:List Oper) (aS:List Rec) (F:Frm) (H:a08),ag++post=au.toList.drop aS.length→aS.length+ag.length+post.length=au.size→a2h F=gL fov f0 a3t aS→a03 H=gL hov h0 a3t aS→H.length=cnt m0 aS→
  RecsOk E ro e N m0 au Q f0 h0 aS→a26 E true N call au.toList ag (aS.map (·.log)) F H k=some r→
  ∃bN F' H',bN.length+post.length=au.size∧a2h F'=gL fov f0 a3t bN∧a03 H'=gL hov h0 a3t bN∧H'.length=cnt m0 bN∧RecsOk E ro e N m0 au Q f0 h0 bN∧
   logOk au.toList (bN.map (·.log)).length (bN.map (·.log))=true∧k F' H'=some r
 | [],aS,F,H,_,ak,hF,hH,hn,eP,ac=>by
  simp only[a26,e6i,Bool.false_or]at ac;rw[cond_eq_ite]at ac;split at ac
  case isFalse=>cases ac
  rename_i kh;exact⟨aS,F,H,by simpa using ak,hF,hH,hn,eP,kh,ac⟩
 |o::ag,aS,F,H,cj,ak,hF,hH,hn,eP,ac=>by
  have ho:au[aS.length]?=some o:=by
   have:(au.toList.drop aS.length)[0]?=some o:=by rw[←cj];rfl
   rw[e6h]at this;simpa using this
  have fg:ag++post=au.toList.drop (aS.length+1):=by
   have:(au.toList.drop aS.length).drop 1=ag++post:=by rw[←cj];rfl
   rw[e7h]at this;exact this.symm
  unfold a26 at ac;rw[cond_eq_ite]at ac;split at ac
  case isFalse=>cases ac
  rename_i hd;simp only[b94]at ak
  -- a step that is executed,and one that is not
  have exec:∀F0,a2h F0=a2h F→(match a1c E true call F0 H o.op with
   |some (v,H',l)=>a26 E true N call au.toList ag (l::aS.map (·.log)) (a3f F0 o.dst v) H' k
   |none=>none)=some r→
   (∀{I:Nat→Prop} {w:World} {ρ:PMap} {a:Act} {f:Nat→AV},(∀s∈looks au.toList o,f s=gL fov f0 a3t aS s)→(∀s,VRel I w ρ (f s) (a.tmps.getD s undef))→Region.wanted o (yielded au a.tmps)=true)→
   ∃bN F' H',bN.length+post.length=au.size∧a2h F'=gL fov f0 a3t bN∧a03 H'=gL hov h0 a3t bN∧H'.length=cnt m0 bN∧RecsOk E ro e N m0 au Q f0 h0 bN∧
    logOk au.toList (bN.map (·.log)).length (bN.map (·.log))=true∧k F' H'=some r:=by
   intro F0 kW hr hw;split at hr
   case h_2=>cases hr
   rename_i v H' l hs;obtain⟨ov,fresh,h1,h2,h3,h4⟩:=c47 (ro:=ro) (e:=e) (N:=N) (m0:=m0) ok am ei (by rw[hn];exact c21) hs hd;refine a6s ok am ei ag (⟨o.dst,v,ov,fresh,l⟩::aS) (a3f F0 o.dst v) H' (by simpa using fg) (by simp only[b94];omega) ?_ ?_ ?_ (eP.cons ?_) hr
   ·simp only[gL,a3t,e78];rw[←hF,←kW]
    funext s
    cases mS:o.dst with
    |none=>simp[a3f,fov]
    |some d=>rw[a7y];simp only[fov,Option.some.injEq];split<;>rfl
   ·simp only[gL,a3t,e78];rw[←hH];exact h1
   ·simp only[cnt];rw[←hn];exact h2
   ·refine⟨λo' ep=>by rw[ho]at ep;cases ep;rfl,h3,?_⟩;intro C f h I ρ a w ae hf hh hC K hK;have hf:=hf o ho;unfold wpOpIn;simp only[ho];rw[e3g (hw hf ae.frm)];refine(h4 ae (λs hs=>by rw[hf s (b8k hs),kW,hF]) (λb hb=>by rw[hh b hb,hH]) (by rw[hn];exact hC) ?_);rw[hn];exact hK
  have skip:∀F0,a2h F0=a2h F→a26 E true N call au.toList ag (⟨[],[]⟩::aS.map (·.log)) (a3f F0 o.dst (.tuple [])) H k=some r→
   (∀{I:Nat→Prop} {w:World} {ρ:PMap} {a:Act} {f:Nat→AV},(∀s∈looks au.toList o,f s=gL fov f0 a3t aS s)→(∀s,VRel I w ρ (f s) (a.tmps.getD s undef))→Region.wanted o (yielded au a.tmps)=false)→
   ∃bN F' H',bN.length+post.length=au.size∧a2h F'=gL fov f0 a3t bN∧a03 H'=gL hov h0 a3t bN∧H'.length=cnt m0 bN∧RecsOk E ro e N m0 au Q f0 h0 bN∧
    logOk au.toList (bN.map (·.log)).length (bN.map (·.log))=true∧k F' H'=some r:=by
   intro F0 kW hr hw;refine a6s ok am ei ag (⟨o.dst,.tuple [],λ_=>none,0,⟨[],[]⟩⟩::aS) (a3f F0 o.dst (.tuple [])) H (by simpa using fg) (by simp only[b94];omega) ?_ ?_ ?_ (eP.cons ?_) hr
   ·simp only[gL,a3t,e78];rw[←hF,←kW]
    funext s
    cases mS:o.dst with
    |none=>simp[a3f,fov]
    |some d=>rw[a7y];simp only[fov,Option.some.injEq];split<;>rfl
   ·simp only[gL,a3t,e78];rw[←hH];rfl
   ·simp only[cnt];exact hn
   ·refine⟨λo' ep=>by rw[ho]at ep;cases ep;rfl,by simp,?_⟩;intro C f h I ρ a w ae hf hh hC K hK;have hf:=hf o ho;unfold wpOpIn;simp only[ho];rw[e2i (by rw[hw hf ae.frm];simp)];refine⟨λf _=>c7b ro f,?_⟩;refine hK I ρ _ _ ⟨ae.imm,ae.map,ae.ext,ae.rel,λb hb hc=>ae.nrel b hb (λh=>hc (.inl h)),ae.fin,by rw[a8h];exact ae.size,?_,by rw[a33];exact ae.marks⟩;exact b0w (λ_ _ h=>h) ae.size ae.frm hd (by simp only[VRel,undef];exact⟨#[],rfl,by simp[VRels]⟩)
  split at ac
  ·rename_i hg;exact exec F rfl ac (λ_ _=>by simp[Region.wanted,hg])
  ·rename_i j bQ hg;split at ac
   case h_1=>cases ac
   rename_i d lx;have nj:=c0i (o:=o) hg lx;split at ac
   ·rename_i b hb;have hw:∀{I:Nat→Prop} {w:World} {ρ:PMap} {a:Act} {f:Nat→AV},(∀s∈looks au.toList o,f s=gL fov f0 a3t aS s)→(∀s,VRel I w ρ (f s) (a.tmps.getD s undef))→Region.wanted o (yielded au a.tmps)=(b==bQ):=by
     intro I w ρ a f hf hv;have cr:f d = .bool b:=by rw[hf d nj,←hF,hb]
     have:=(c11 lx (hv d)).1 b cr;simp[Region.wanted,hg,this]
    have bt:a2h (a3f F (some d) (.bool b))=a2h F:=by
     funext s
     rw[a7y];split
     ·rename_i hs;rw[←hs,hb]
     ·rfl
    cases b
    ·simp only[e3p]at ac;cases bQ
     ·simp only[e3p]at ac;exact exec _ bt ac (λhf hv=>by rw[hw hf hv];rfl)
     ·simp only[e3e]at ac;exact skip _ bt ac (λhf hv=>by rw[hw hf hv];rfl)
    ·simp only[e3e]at ac;cases bQ
     ·simp only[e3p]at ac;exact skip _ bt ac (λhf hv=>by rw[hw hf hv];rfl)
     ·simp only[e3e]at ac;exact exec _ bt ac (λhf hv=>by rw[hw hf hv];rfl)
   ·rename_i hb;refine skip F rfl ac (λ{I w ρ a f} hf hv=>?_);have cr:f d = .tuple []:=by rw[hf d nj,←hF,hb]
    have:=(c11 lx (hv d)).2 cr;simp[Region.wanted,hg,this]
   ·cases ac
theorem a4d{aS:List Rec}:∀{i:Nat} {r:Rec},nth aS i=some r→nth (aS.map (·.log)) i=some r.log:=by
 induction aS with
 |nil=>intro i r h;simp[nth]at h
 |cons a ag ih=>
  intro i r h;unfold nth at h;simp only[e2b,nth,b41];split at h
  ·rename_i hi;cases h;rw[e3g hi]
  ·rename_i hi;rw[e2i hi];exact ih h
theorem b39{a b:List Nat}{x:Nat}(h1:x∈a)(h2:x∈b):b3a a b=true:=by simp only[b3a,List.any_eq_true,a55];exact⟨x,h1,h2⟩
theorem DNow.weaken{C C':Nat→Prop}{f:Nat→AV}{h:FHeap}{I:Nat→Prop}{ρ:PMap}{a:Act}{w:World}(d:DNow E e N m0 C f h I ρ a w)(hC:∀b,C b→C' b):DNow E e N m0 C' f h I ρ a w:={ d with nrel:=λb hb hc=>d.nrel b hb (λh=>hc (hC b h)) }
theorem b5m{S:Nat→Bool}{b:Nat}:∀{l:List Rec},c0h m0 S l b→c0h m0 a3t l b
 | [],h=>h
 |_::_,h=>h.imp (λ⟨_,h2⟩=>⟨rfl,h2⟩) b5m
theorem c1z{ro:Option Nat}(aR:b9b au.toList=true){aS:List Rec}(ak:aS.length=au.size)(eP:RecsOk E ro e N m0 au Q f0 h0 aS)(kh:logOk au.toList (aS.map (·.log)).length (aS.map (·.log))=true)
 (hQ:∀I ρ a w,DNow E e N m0 (c0h m0 a3t aS) (gL fov f0 a3t aS) (gL hov h0 a3t aS) I ρ a w→Q .normal a w) :
 ∀(bM:Nat) (aG:Array Bool) (I:Nat→Prop) (ρ:PMap) (a:Act) (w:World),aG.size=au.size→((List.range au.size).filter λi=>!aG.getD i false).length≤bM→
  (∀j,aG.getD j false=true→a7b au.toList (λi=>aG.getD i false) j)→
  DNow E e N m0 (c0h m0 (λi=>aG.getD i false) aS) (gL fov f0 (λi=>aG.getD i false) aS) (gL hov h0 (λi=>aG.getD i false) aS) I ρ a w→
  wpAnyIn (wf ro) 0 E.P .any au Q bM aG a w:=by
 have done:∀(aG:Array Bool) (I:Nat→Prop) (ρ:PMap) (a:Act) (w:World),(∀i,i<au.size→aG.getD i false=true)→
  DNow E e N m0 (c0h m0 (λi=>aG.getD i false) aS) (gL fov f0 (λi=>aG.getD i false) aS) (gL hov h0 (λi=>aG.getD i false) aS) I ρ a w→Q .normal a w:=by
  intro aG I ρ a w aH ae;have dT:∀j,j<aS.length→(λi=>aG.getD i false) j=a3t j:=λj hj=>by rw[ak]at hj;exact aH j hj
  rw[b7a dT,b7a dT]at ae;exact hQ I ρ a w (ae.weaken λb=>b5m)
 intro bM
 induction bM with
 |zero=>
  intro aG I ρ a w bA mU aX ae;have aH:∀i,i<au.size→aG.getD i false=true:=by
   intro i hi;cases hx:aG.getD i false with
   |true=>rfl
   |false=>
    have:i∈(List.range au.size).filter λi=>!aG.getD i false:=by rw[List.mem_filter,List.mem_range];exact⟨hi,by rw[hx];rfl⟩
    have:=List.length_pos_of_mem this;omega
  have iP:Region.ready .any au aG=[]:=by
   cases hr:Region.ready .any au aG with
   |nil=>rfl
   |cons i ag=>
    have:i∈Region.ready .any au aG:=by rw[hr];simp
    obtain⟨h1,o,h2,_⟩:=mem_ready.1 this;have hi:=(e54.1 h2).1;have:=aH i hi;simp only[e53,e73 (show i<aG.size by omega),e64]at h1 this;rw[this]at h1;cases h1
  exact⟨iP,done aG I ρ a w aH ae⟩
 |succ bM ih=>
  intro aG I ρ a w bA mU aX ae;refine⟨λiP=>done aG I ρ a w ?_ ae,λi hi=>?_⟩
  ·intro i
   induction i using Nat.strongRecOn with
   |_ i ihi=>
    intro hi;cases hx:aG.getD i false with
    |true=>rfl
    |false=>
     exfalso;have hY:i∈Region.ready .any au aG:=by
      refine mem_ready.2 ⟨?_,au[i],by simp[hi],λe he hb=>?_⟩
      ·simpa only[e53,e73 (show i<aG.size by omega),e64]using hx
      ·have:=(b05 aR (j:=i) (y:=au[i]) (by simp[hi])).1 e (by simpa using he) hb;exact ihi e.on this (by omega)
     rw[iP]at hY;cases hY
  ·obtain⟨h1,o,ho,mR⟩:=mem_ready.1 hi;have kn:=(e54.1 ho).1;have iq:au.toList[i]?=some o:=by simpa using ho
   generalize hS:(λi=>aG.getD i false)=S at aX ae;have lC:S i=false:=by rw[←hS];simp only[e53,e73 (show i<aG.size by omega),e64]at h1⊢;exact h1
   have lB:∀j,S j=true→a7b au.toList S j:=by intro j hj;rw[←hS]at hj;exact aX j hj
   have oy:a7b au.toList S i:=by intro o' ep e he hb;rw[iq]at ep;cases ep;rw[←hS];exact mR e (by simpa using he) hb
   obtain⟨r,hr⟩:=c1j (l:=aS) (i:=i) (by omega);have mE:=eP i r hr;have nv:∀j r',nth aS j=some r'→∃o',au.toList[j]?=some o'∧r'.dst=o'.dst:=by
    intro j r' hj;have dq:=b37 hj;have:au[j]?=some au[j]:=by simp
    exact⟨au[j],by simp,(eP j r' hj).dst _ this⟩
   have cE:∀j,a5h au.toList j i=true→S j=true:=λj h=>b5k lB oy h;have after:∀j,a5h au.toList i j=true→S j=false:=by
    intro j h;cases hx:S j with
    |false=>rfl
    |true=>rw[b5k lB (lB j hx) h]at lC;cases lC
   refine mE.good ae ?_ ?_ ?_ ?_
   ·intro o' ep s hs;rw[ho]at ep;cases ep;refine d2d hr λj r' hj hd=>?_;obtain⟨oj,ru,tL⟩:=nv j r' hj;have ow:oj.dst=some s:=by
     rw[←tL];unfold fov at hd;split at hd
     ·assumption
     ·simp at hd
    refine⟨λlV=>cE j ?_,λjz=>?_⟩
    ·refine(b05 aR iq).2 j oj ru lV ?_;simp only[a5d,ow,e6u,List.contains_iff_mem];exact .inl (.inl hs)
    ·rcases Nat.lt_or_eq_of_le jz with aq|rfl
     ·refine after j ((b05 aR ru).2 i o iq aq ?_);simp only[a5d,ow,e6u,List.contains_iff_mem];exact .inl (.inr hs)
     ·exact lC
   ·intro b hb;refine d2d hr λj r' hj hd=>?_;have dO:=(eP j r' hj).keys b hd;refine⟨λlV=>cE j ?_,λjz=>?_⟩
    ·refine b2c kh j i _ _ lV (a4d hj) (a4d hr) ?_;simp only[LogE.clash,b39 dO hb,Bool.true_or]
    ·rcases Nat.lt_or_eq_of_le jz with aq|rfl
     ·refine after j (b2c kh i j _ _ aq (a4d hr) (a4d hj) ?_);simp only[LogE.clash,b39 hb dO,Bool.or_true]
     ·exact lC
   ·intro b du d7 hm;rw[c53 hr du d7 hm]at lC;cases lC
   ·intro I' ρ' a' w' nV;have pe:(λj=>(aG.setIfInBounds i true).getD j false)=b8e S i:=by
     funext j
     rw[←hS];simp only[b8e,e53,e56];by_cases jz:i=j
     ·subst jz;simp[show i<aG.size by omega]
     ·rw[e2i jz,e3o.2 (e3m jz),Bool.false_or]
    refine ih _ I' ρ' a' w' (by simpa using bA) ?_ ?_ ?_
    ·have qr:((List.range au.size).filter λj=>!(aG.setIfInBounds i true).getD j false)=((List.range au.size).filter λj=>!aG.getD j false).filter λj=>!(j==i):=by
      rw[List.filter_filter];refine List.filter_congr λj _=>?_;have h1:=congrFun pe j;have h2:=congrFun hS j;rw[h1,h2];simp[b8e]
     rw[qr];have:(((List.range au.size).filter λj=>!aG.getD j false).filter λj=>!(j==i)).length<((List.range au.size).filter λj=>!aG.getD j false).length:=by refine List.length_filter_lt_length_iff_exists.2 ⟨i,?_,by simp⟩;rw[List.mem_filter,List.mem_range];refine⟨kn,?_⟩;have h2:=congrFun hS i;rw[h2,lC];rfl
     omega
    ·rw[pe];have gU:∀j,a7b au.toList S j→a7b au.toList (b8e S i) j:=λj h o ho e he hb=>by simp[b8e,h o ho e he hb]
     intro j hj;have hj:b8e S i j=true:=by rw[←pe];exact hj
     simp only[b8e,e6u,e6n]at hj;rcases hj with rfl|hj
     ·exact gU _ oy
     ·exact gU _ (lB j hj)
    ·rw[pe];rw[c5q hr lC ?_,c5q hr lC ?_]
     ·exact nV.weaken λb hb=>b8j hr hb
     ·intro k r' hk kP qN s hs;cases hx:hov r' s with
      |none=>rfl
      |some ob=>have h1:=mE.keys s hs;have h2:=(eP k r' hk).keys s (by unfold hov at hx;rw[hx];rfl);have:=after k (b2c kh i k _ _ kP (a4d hr) (a4d hk) (by simp only[LogE.clash,b39 h1 h2,Bool.or_true,Bool.true_or]));rw[qN]at this;cases this
     ·intro k r' hk kP qN s hs;cases hx:fov r' s with
      |none=>rfl
      |some v=>
       obtain⟨ok,ba,tK⟩:=nv k r' hk;have h1:o.dst=some s:=by
        rw[←mE.dst o ho];unfold fov at hs;split at hs
        ·assumption
        ·simp at hs
       have h2:ok.dst=some s:=by
        rw[←tK];unfold fov at hx;split at hx
        ·assumption
        ·cases hx
       have:=after k ((b05 aR ba).2 i o iq kP (by simp[a5d,h1,h2]));rw[qN]at this;cases this
theorem c0b(ok:EnvOk E){ro:Option Nat}{call:FuncId→List AV→a08→Option (AV×a08)}(am:a3d E call){R:Type}{k:Frm→a08→Option R}{r:R}{F:Frm}{H:a08}{I:Nat→Prop}{ρ:PMap}{a:Act}{w:World}
 (aR:b9b au.toList=true)(hQ:∀F H I ρ a w,Now E e N F H I ρ a w→k F H=some r→Q .normal a w)(ae:Now E e N F H I ρ a w)(ac:a26 E true N call au.toList au.toList [] F H k=some r)(id:Nat) :
 (Code.region id au true).wpIn (wf ro) 0 E.P Q a w:=by
 refine wpIn_region_any ok.mixed ?_;obtain⟨aS,F',H',h1,h2,h3,h4,h5,h6,h7⟩:=a6s (post:=[]) (ro:=ro) (e:=e) (N:=N) (m0:=H.length) (Q:=Q) (f0:=a2h F) (h0:=a03 H) ok am ae.low au.toList [] F H (by simp) (by simp) rfl rfl rfl (λi r h=>by simp[nth]at h) ac;have gx:∀i,(Array.replicate au.size false).getD i false=false:=by intro i;simp only[e53,Array.getElem?_replicate];split<;>rfl
 have dV:∀{V:Type} (o:Rec→Nat→Option V) (g0:Nat→V) (l:List Rec),gL o g0 (λi=>(Array.replicate au.size false).getD i false) l=g0:=by
  intro V o g0 l
  induction l with
  |nil=>rfl
  |cons a ag ih=>unfold gL;rw[e2i (by rw[gx];simp)];exact ih
 refine c1z aR (by simpa using h1) h5 h6 ?_ au.size _ I ρ a _ (by simp) ?_ ?_ ?_
 ·intro I' ρ' a' w' hd;refine hQ F' H' I' ρ' a' w' ⟨hd.imm,hd.map,hd.ext,?_,?_,⟨hd.size,λs=>by rw[h2];exact hd.frm s⟩,?_,hd.marks⟩ h7
  ·rw[h3];exact hd.rel
  ·intro b hb;have ni:H.length≤cnt H.length aS:=c21;refine hd.nrel b (by omega) (λhm=>?_);have:=c0g hm;omega
  ·have ni:H.length≤cnt H.length aS:=c21;have:=ae.low;omega
 ·refine e5w (List.length_filter_le _ _) (by simp)
 ·intro j hj;have:=gx j;rw[this]at hj;cases hj
 ·have cD:=ae.drew;rw[dV,dV];exact⟨cD.imm,cD.map,cD.ext,cD.rel,λb hb _=>cD.nrel b hb,⟨_,cD.nrel⟩,cD.frm.1,cD.frm.2,cD.marks⟩
end
end Go.Ax
/- AxMark: what a loop over a function leaves behind: blocks for deferred calls, shut when the function ends. -/
namespace Go.Ax
section
variable {I:Nat→Prop}{w w':World}
def SameD(w w':World)(c:Nat):Prop:=w'.heap[c]?=w.heap[c]?∨∃d,w.heap[c]?=some (.deferred d)
theorem SameD.map{c:Nat}{es:Array MapEntry}{cl:Nat}(h:SameD w w' c)(hc:w.heap[c]?=some (.map es cl)):w'.heap[c]?=some (.map es cl):=by
 rcases h with h|⟨d,h⟩
 ·rw[h,hc]
 ·rw[hc]at h;cases h
theorem SameD.cell{b o:Nat}{c:Value}(h:SameD w w' b)(hc:w.cell? ⟨b,o,none⟩=some c):w'.cell? ⟨b,o,none⟩=some c:=by
 rcases h with h|⟨d,h⟩
 ·rw[a74 h,hc]
 ·simp[World.cell?,h]at hc
mutual
theorem VRel.monoD(hw:∀c,I c→SameD w w' c):∀{ρ:PMap} (v:AV) {c:Value},VRel I w ρ v c→VRel I w' ρ v c
 |ρ,v,c,h=>by
  cases v with
  |junk=>simp[VRel]
  |bool b=>simpa[VRel]using h
  |int k n=>simpa[VRel]using h
  |str s=>simpa[VRel]using h
  |nilptr=>simpa[VRel]using h
  |nilslice=>simpa[VRel]using h
  |nilmap=>simpa[VRel]using h
  |nilfunc=>simpa[VRel]using h
  |nilifc=>simpa[VRel]using h
  |ptr b i o=>simpa only[VRel]using h
  |iptr cs=>simp only[VRel]at h⊢;obtain⟨b,off,rfl,hb,h⟩:=h;exact⟨b,off,rfl,hb,VAt.monoD hw cs (hw _ hb) h⟩
  |slice b off len cap=>simpa only[VRel]using h
  |islice aa cap=>
   simp only[VRel]at h⊢;obtain⟨a,n,k,rfl,h1,h2,h3⟩:=h;refine⟨a,n,k,rfl,h1,h2,h3.imp id ?_⟩
   rintro⟨hs,hb,h⟩
   exact⟨hs,hb,VRows.monoD hw aa (hw _ hb) h⟩
  |map b=>simpa only[VRel]using h
  |imap ks vs bs co=>simp only[VRel]at h⊢;obtain⟨b,es,rfl,hb,he,h1,h2,h3⟩:=h;exact⟨b,es,rfl,hb,(hw _ hb).map he,VRels.monoD hw ks h1,VRels.monoD hw vs h2,h3⟩
  |iset ks=>simp only[VRel]at h⊢;obtain⟨b,es,cl,rfl,hb,he,h1⟩:=h;exact⟨b,es,cl,rfl,hb,(hw _ hb).map he,h1⟩
  |yfn b=>simpa only[VRel]using h
  |func fn fs cs=>simp only[VRel]at h⊢;obtain⟨di,aT,rfl,h1,h2⟩:=h;exact⟨di,aT,rfl,VRels.monoD hw fs h1,VRels.monoD hw cs h2⟩
  |iface t x=>simp only[VRel]at h⊢;obtain⟨x',rfl,h⟩:=h;exact⟨x',rfl,VRel.monoD hw x h⟩
  |agg cs=>simp only[VRel]at h⊢;obtain⟨aT,rfl,h⟩:=h;exact⟨aT,rfl,VRels.monoD hw cs h⟩
  |tuple cs=>simp only[VRel]at h⊢;obtain⟨aT,rfl,h⟩:=h;exact⟨aT,rfl,VRels.monoD hw cs h⟩
theorem VRels.monoD(hw:∀c,I c→SameD w w' c):∀{ρ:PMap} (vs:List AV) {cs:List Value},VRels I w ρ vs cs→VRels I w' ρ vs cs
 |ρ,[],cs,h=>by simpa[VRels]using h
 |ρ,v::vs,cs,h=>by simp only[VRels]at h⊢;obtain⟨c,aT,rfl,h1,h2⟩:=h;exact⟨c,aT,rfl,VRel.monoD hw v h1,VRels.monoD hw vs h2⟩
theorem VAt.monoD(hw:∀c,I c→SameD w w' c):∀{ρ:PMap} (vs:List AV) {b off:Nat},SameD w w' b→VAt I w ρ vs b off→VAt I w' ρ vs b off
 |ρ,[],b,off,hb,h=>by simp[VAt]
 |ρ,v::vs,b,off,hb,h=>by simp only[VAt]at h⊢;obtain⟨⟨c,hc,h1⟩,h2⟩:=h;exact⟨⟨c,hb.cell hc,VRel.monoD hw v h1⟩,VAt.monoD hw vs hb h2⟩
theorem VRows.monoD{k:Nat}(hw:∀c,I c→SameD w w' c):∀{ρ:PMap} (rs:List (List AV)) {b off:Nat},SameD w w' b→VRows I w k ρ rs b off→VRows I w' k ρ rs b off
 |ρ,[],b,off,hb,h=>by simp[VRows]
 |ρ,r::rs,b,off,hb,h=>by simp only[VRows]at h⊢;obtain⟨h0,h1,h2⟩:=h;exact⟨h0,VAt.monoD hw r hb h1,VRows.monoD hw rs hb h2⟩
end
theorem ORel.monoD{G:GTab (List AV)}{ρ:PMap}{m:Pl}(hw:∀c,I c→SameD w w' c)(o:AObj)(hb:w'.heap[m.blk]?=w.heap[m.blk]?)(h:ORel G I w ρ m o):ORel G I w' ρ m o:=by
 cases o with
 |row k aa=>obtain⟨h1,h2,⟨b6,e,h3,h4⟩,h5⟩:=h;exact⟨h1,h2,⟨b6,e,by rw[hb,h3],h4⟩,VRows.monoD hw aa (.inl hb) h5⟩
 |map ks vs bs co=>obtain⟨es,h1,h2,h3,h4⟩:=h;exact⟨es,by rw[hb,h1],VRels.monoD hw ks h2,VRels.monoD hw vs h3,h4⟩
 |siter s pos=>obtain⟨h0,t,h1,h2⟩:=h;exact⟨h0,t,by rw[hb,h1],h2⟩
 |uset ks=>obtain⟨es,cl,h1,h2⟩:=h;exact⟨es,cl,by rw[hb,h1],h2⟩
 |miter ks eh eK=>
  obtain⟨h0,h⟩:=h;rcases h with ⟨h1,h2,h3⟩|⟨c,es,cl,seen,h1,h2,h3,h4,h5⟩
  ·exact⟨h0,.inl ⟨h1,h2,by rw[hb,h3]⟩⟩
  ·exact⟨h0,.inr ⟨c,es,cl,seen,h1,(hw c h1).map h2,h3,by rw[hb,h4],h5⟩⟩
 |yloop y F st=>obtain⟨ri,r,h0,h1,h2,h3,h4,h5,h6,h7⟩:=h;exact⟨ri,r,h0,by rw[hb,h1],h2,h3,h4,h5,λs=>VRel.monoD hw _ (h6 s),h7⟩
 |trow t x k aa=>obtain⟨h0,h1,h2,⟨b6,h3,h4⟩,h5⟩:=h;exact⟨h0,h1,h2,⟨b6,by rw[hb,h3],h4⟩,VRows.monoD hw aa (.inl hb) h5⟩
end
theorem GAt.monoD{I:Nat→Prop}{w w':World}(hw:∀c,I c→SameD w w' c)(cs:List AV){g:Nat}(hb:SameD w w' g)(h:GAt I w cs g):GAt I w' cs g:=by
 refine⟨VAt.monoD hw cs hb h.1,λhn=>?_⟩;rcases hb with hb|⟨d,hb⟩
 ·rw[a74 hb];exact h.2 hn
 ·exfalso;cases cs with
  |nil=>exact hn rfl
  |cons v vs=>have h1:=h.1;simp only[VAt]at h1;obtain⟨⟨c,hc,_⟩,_⟩:=h1;simp[World.cell?,hb]at hc
section
variable {G:GTab (List AV)}{I K:Nat→Prop}{ρ:PMap}{h:FHeap}{w w':World}
theorem HRel.shut(r:HRel G I K ρ h w){S:Nat→Prop}(hS:∀c,S c→I c∧∃d,w.heap[c]?=some (.deferred d))(be:w'.heap.size=w.heap.size)(hw:∀c,¬S c→w'.heap[c]?=w.heap[c]?) :
 HRel G I K ρ h w':=by
 have hD:∀c,SameD w w' c:=by
  intro c;by_cases hc:S c
  ·exact .inr (hS c hc).2
  ·exact .inl (hw c hc)
 refine⟨?_,r.inj,λb m hb=>by rw[be];exact r.dom b m hb,λc hc=>by rw[be];exact r.imm c hc,λc hc=>by rw[be];exact r.kept c hc,r.apart,?_⟩
 ·intro b o hb;obtain⟨m,h1,h2,h3,h4⟩:=r.live b o hb;exact⟨m,h1,h2,h3,ORel.monoD (λc _=>hD c) o (hw _ (λhc=>h2 (hS _ hc).1)) h4⟩
 ·intro g cs hg;obtain⟨h1,h2⟩:=r.glob g cs hg;exact⟨h1,GAt.monoD (λc _=>hD c) cs (hD g) h2⟩
theorem c03(r:HRel G I K ρ h w){ob:Obj}(hw:w'.heap=w.heap.push ob)(ht:w'.tape=w.tape)(gu:w'.os=w.os)(bh:w'.output=w.output) :
 Stepped G I K ρ w (λc=>I c∨c=w.heap.size) ρ h w':=by
 have a8:∀c,c<w.heap.size→w'.heap[c]?=w.heap[c]?:=by intro c hc;rw[hw,e5k,e2i (by omega)]
 refine⟨λ_ h=>.inl h,λ_ _ h=>h,⟨gu,ht,bh,by rw[hw];simp,?_⟩,⟨?_,r.inj,?_,?_,?_,?_,?_⟩⟩
 ·rintro c (hc|hc)
  ·exact a8 c (r.imm c hc)
  ·exact a8 c (r.kept c hc)
 ·intro b o hb;obtain⟨m,h1,h2,h3,h4⟩:=r.live b o hb;have hd:=r.dom b m h1;exact⟨m,h1,λhc=>hc.elim h2 (λe=>by omega),h3,ORel.mono o (λ_ h=>.inl h) (λc hc=>a8 c (r.imm c hc)) (λ_ _ h=>h) (a8 _ hd) h4⟩
 ·intro b m hb;have:=r.dom b m hb;rw[hw];simp only[Array.size_push];omega
 ·rintro c (hc|rfl)
  ·have:=r.imm c hc;rw[hw];simp only[Array.size_push];omega
  ·rw[hw];simp
 ·intro c hc;have:=r.kept c hc;rw[hw];simp only[Array.size_push];omega
 ·rintro c (hc|rfl) hk
  ·exact r.apart c hc hk
  ·have:=r.kept _ hk;omega
 ·intro g cs hg;obtain⟨h1,h2⟩:=r.glob g cs hg;exact⟨.inl h1,GAt.mono (λ_ h=>.inl h) (λc hc=>a8 c (r.imm c hc)) cs (λ_ _ h=>h) (a8 g (r.imm g h1)) h2⟩
theorem b7v(r:HRel G I K ρ h w){c0:Nat}(hI:¬I c0)(hK:¬K c0)(hl:∀b o m,h b=some o→ρ b=some m→m.blk≠c0)(be:w'.heap.size=w.heap.size)
 (hw:∀c,c≠c0→w'.heap[c]?=w.heap[c]?)(ht:w'.tape=w.tape)(gu:w'.os=w.os)(bh:w'.output=w.output):Stepped G I K ρ w I ρ h w':=by
 have dm:∀c,I c→w'.heap[c]?=w.heap[c]?:=λc hc=>hw c (λe=>hI (e▸hc));refine⟨λ_ h=>h,λ_ _ h=>h,⟨gu,ht,bh,by omega,?_⟩,⟨?_,r.inj,λb m hb=>by rw[be];exact r.dom b m hb,λc hc=>by rw[be];exact r.imm c hc,λc hc=>by rw[be];exact r.kept c hc,r.apart,?_⟩⟩
 ·rintro c (hc|hc)
  ·exact dm c hc
  ·exact hw c (λe=>hK (e▸hc))
 ·intro b o hb;obtain⟨m,h1,h2,h3,h4⟩:=r.live b o hb;exact⟨m,h1,h2,h3,ORel.mono o (λ_ h=>h) dm (λ_ _ h=>h) (hw _ (hl b o m hb h1)) h4⟩
 ·intro g cs hg;obtain⟨h1,h2⟩:=r.glob g cs hg;exact⟨h1,GAt.mono (λ_ h=>h) dm cs (λ_ _ h=>h) (dm g h1) h2⟩
end
/-! ### a function's end -/
def a1y:List Nat→World→World
 | [],w=>w
 |r::rs,w=>a1y rs (w.putObj r (.deferred none))
theorem a5o:∀(rs:List Nat) (w:World),(a1y rs w).heap.size=w.heap.size∧(a1y rs w).tape=w.tape∧(a1y rs w).os=w.os∧(a1y rs w).output=w.output∧
 ∀c,c∉rs→(a1y rs w).heap[c]?=w.heap[c]?
 | [],w=>⟨rfl,rfl,rfl,rfl,λ_ _=>rfl⟩
 |r::rs,w=>by obtain⟨h1,h2,h3,h4,h5⟩:=a5o rs (w.putObj r (.deferred none));refine⟨by rw[a1y,h1];simp,by rw[a1y,h2];rfl,by rw[a1y,h3];rfl,by rw[a1y,h4];rfl,λc hc=>?_⟩;simp only[e3b,not_or]at hc;rw[a1y,h5 c hc.2,World.putObj_heap_other hc.1]
theorem a5s{P:Program}{n:Nat}{F:Fence}{fn:Func}{tmps:Array Value}{R:Ending→World→Prop}:∀(rs:List Nat) (w:World),rs.Nodup→(∀r∈rs,w.heap[r]?=some (.deferred (some [])))→
 (∃v,(results fn tmps).run P (a1y rs w) = .ok v (a1y rs w)∧R (.returned v) (a1y rs w))→LeavesInM F n P fn tmps R (rs.map (λr=>(⟨.collected r,#[]⟩:Deferred))) .returning w
 | [],w,_,_,h=>by simpa[LeavesInM,LeavesIn,a1y]using h
 |r::rs,w,dl,hr,h=>by simp only[e2b,LeavesInM];refine⟨by simp,.inl ⟨r,w.putObj r (.deferred none),rfl,run_takeDeferred (hr r (by simp)),?_⟩⟩;have dl:=e66.1 dl;refine a5s rs _ dl.2 (λq hq=>?_) h;have aK:q≠r:=λe=>dl.1 (by rw[←e];exact hq);rw[World.putObj_heap_other aK];exact hr q (by simp[hq])
/-! ### a scope -/
theorem a8y{F:Fence}{n:Nat}{P:Program}{Q:Exit→Act→World→Prop}{a:Act}{w:World}{c:Code}(h:c.wpIn F n P (Exit.noGoto Q) a w):(Code.scope c).wpIn F n P Q a w:=by
 intro b k cs mC hb hr;have h0:(lone (b.atR a (.code (.scope c)::k)) cs w).fenced P F:=fenced_calm hb hr rfl;have s0:step P (lone (b.atR a (.code (.scope c)::k)) cs w) = .next (lone (b.atR a (.code c :: .inScope c::k)) cs w):=step_lone_go (by simp[stepG,stepG.exec,Frame.atR]);obtain⟨e,a₁,w₁,hq,bU⟩:=h b (.inScope c::k) cs mC hb hr;have s1:step P (lone (b.atR a₁ (.inScope c::k)) cs w₁) = .next (lone (b.atR a₁ k) cs w₁):=step_lone_go (by simp[stepG,stepG.exec,Frame.atR]);cases e with
 |normal=>exact⟨.normal,a₁,w₁,hq,.head h0 s0 (StepsIn.trans bU (.one (fenced_calm hb hr rfl) s1))⟩
 |exit id=>
  have hx:exitTo id (.inScope c::k)=exitTo id k:=by simp[exitTo]
  exact⟨.exit id,a₁,w₁,hq,λk' hk=>.head h0 s0 (bU.1 k' (by rw[hx];exact hk)),
   λj9 hk=>let⟨k₁,h1,h2⟩:=bU.2 j9 (by rw[hx];exact hk);⟨k₁,h1,.head h0 s0 h2⟩⟩
 |goto l=>exact hq.elim
 |ret=>exact⟨_,a₁,w₁,hq,.of_steps (.one h0 s0) bU⟩
 |panic ch=>exact⟨_,a₁,w₁,hq,.of_steps (.one h0 s0) bU⟩
 |outgrown=>exact⟨_,a₁,w₁,hq,.of_steps (.one h0 s0) bU⟩
end Go.Ax
/- AxCode: statements. -/
namespace Go.Ax
def a1p:Bool→Code→Bool
 |top,.region _ au ai=>bif (c84 au.toList).isSome then top && !ai else bif ai then b9b au.toList else true
 |top,.seq a b=>a1p top a&&a1p false b
 |_,.cond _ a b=>a1p false a&&a1p false b
 |_,.block _ b=>a1p false b
 |_,.loop b=>a1p (a8u b).isSome b
 |_,.scope b=>a1p false b
 |_,_=>true
def a83(c:Code):Bool:=a1p false c
def AExit.conv:AExit→Exit
 |.normal=>.normal
 |.exit id=>.exit id
 |.ret=>.ret
def d3p(E:Env)(call:FuncId→List AV→a08→Option (AV×a08))(fid:Nat)(ro:Option Nat)(e:Entry)(N lf:Nat)(keep:Nat→List Nat)(c:Code):Prop:=
 ∀{R:Type} {cur:Nat},RFOk E fid N keep ro cur c→∀{k:AExit→Frm→a08→Option R} {r:R} {Q:Exit→Act→World→Prop},(∀x F H I ρ a w,Now E e N F H I ρ a w→k x F H=some r→Q x.conv a w)→
 ∀{F:Frm} {H:a08} {I:Nat→Prop} {ρ:PMap} {a:Act} {w:World},Now E e N F H I ρ a w→a3r E e.m N keep call lf cur c F H k=some r→c.wpIn (wf ro) 0 E.P Q a w
/-! ### a loop over a set -/
theorem b90(x:Int):∀(a b:List Int),a++x::b∈c2w x (a++b)
 | [],[]=>by simp[c2w]
 | [],y::b=>by simp[c2w]
 |y::a,b=>by simp only[b82,c2w,e3b];exact .inr (e5r (b90 x a b))
theorem b5i:∀{ks o:List Int},o.Perm ks→o∈b5j ks
 | [],o,h=>by rw[h.eq_nil];simp[b5j]
 |x::ks,o,h=>by obtain⟨a,b,rfl⟩:=List.append_of_mem (h.mem_iff.2 (List.mem_cons_self));have h2:(a++b).Perm ks:=(List.perm_middle.symm.trans h).cons_inv;simp only[b5j,List.mem_flatMap];exact⟨a++b,b5i h2,b90 x a b⟩
theorem c1a:∀{F G:a08},c2d F G=true→F=G
 | [],[],_=>rfl
 |a::F,b::G,h=>by simp only[c2d,b46]at h;rw[c19 _ _ h.1,c1a h.2]
 | [],_::_,h=>by simp[c2d]at h
 |_::_,[],h=>by simp[c2d]at h
theorem c1b{x:Option R3}{r:R3}(h:d1h x r=true):x=some r:=by
 unfold d1h at h;split at h
 case h_2=>cases h
 rename_i e F H;simp only[b46]at h;obtain⟨e',F',H'⟩:=r;have he:e=e':=by have:=h.1;cases e<;>cases e'<;>simp[d5r]at this<;>first|rfl|rw[this]
 rw[he,b6t h.2.1,c1a h.2.2]
section
variable {E:Env}
theorem b0e{H:a08}{b x:Nat}{o:Option AObj}:a03 (H.set b o) x=if b=x∧b<H.length then o else a03 H x:=by
 unfold a03;rw[List.getElem?_set];by_cases h:b=x
 ·subst h;by_cases h2:b<H.length
  ·simp[h2]
  ·simp[h2]
 ·simp[h]
theorem b78{H:a08}{b:Nat}{o:AObj}(h:a03 H b=some o):b<H.length:=by
 unfold a03 at h;rcases e6m b H.length with h1|h1
 ·exact h1
 ·rw[e52 h1]at h;simp at h
theorem Now.dropIt{e:Entry}{N:Nat}{F:Frm}{H:a08}{I:Nat→Prop}{ρ:PMap}{a:Act}{w:World}(h:Now E e N F H I ρ a w)(it:Nat):Now E e N F (Ax.dropIt F H it) I ρ a w:=by
 unfold Ax.dropIt;split
 ·rename_i b i o hb;refine{ h with rel:=h.rel.fewer (λx ob hx=>?_),nrel:=by rw[List.length_set];exact h.nrel,low:=by rw[List.length_set];exact h.low };rw[b0e]at hx;split at hx
  ·cases hx
  ·exact hx
 ·exact h
theorem Now.step{e:Entry}{N:Nat}{F:Frm}{H:a08}{I:Nat→Prop}{ρ:PMap}{a:Act}{w w':World}(h:Now E e N F H I ρ a w){b:Nat}{o:AObj}(hb:b<H.length)(st:Stepped E.G I e.K ρ w I ρ ((a03 H).eff H.length (.set b o)) w')
 {nx:Nat}(jM:nx<N){v:AV}{c:Value}(hv:VRel I w' ρ v c):Now E e N (a3f F (some nx) v) (H.set b (some o)) I ρ (a.put (some nx) c) w':=by
 have hl:(H.set b (some o)).length=H.length:=List.length_set;refine⟨h.imm,h.map,h.ext.trans h.imm st.ext,st.rel.fewer ?_,by rw[hl];exact h.nrel,?_,by rw[hl];exact h.low,by rw[a33];exact h.marks.mono (λ_ h=>h) (λc hc=>st.ext.keep c (.inl hc))⟩
 ·exact c1y H (.set b o)
 ·exact(FRel.mono h.frm (λv c hv=>st.vrel hv)).set (by intro s hs;cases hs;exact jM) hv
theorem c87(ok:EnvOk E){call:FuncId→List AV→a08→Option (AV×a08)}(am:a3d E call){fid:Nat}{ro:Option Nat}{e:Entry}{N lf:Nat}{keep:Nat→List Nat}{ag:Code}(cj:d3p E call fid ro e N lf keep ag)
 {id:Nat}{au:Array Oper}{it nx:Nat}{m4:List Oper}(jM:c84 au.toList=some (it,nx,m4)){R:Type}{cur:Nat}(bv:RFOk E fid N keep ro cur ag){k:AExit→Frm→a08→Option R}{r:R}{Q:Exit→Act→World→Prop}
 (hQ:∀x F H I ρ a w,Now E e N F H I ρ a w→k x F H=some r→Q x.conv a w){F:Frm}{H:a08}{I:Nat→Prop}{ρ:PMap}{a:Act}{w:World}(ae:Now E e N F H I ρ a w)
 (ac:c2m e.m it (keep cur) (λF H k=>a3r E e.m N keep call lf cur (.seq (.region id au false) ag) F H k) F H k=some r):(Code.loop (.seq (.region id au false) ag)).wpIn (wf ro) 0 E.P Q a w:=by
 obtain⟨o0,dc,cV,mS,tC⟩:∃o0,au.toList=o0::m4∧o0.op = .next (.tmp it) false∧o0.dst=some nx∧o0.guard=none:=by
  unfold c84 at jM;split at jM
  ·cases jM
  ·rename_i o qZ he;split at jM
   ·rename_i sD uy h1 h2 h3;cases jM;exact⟨o,he,h1,h2,h3⟩
   ·cases jM
 unfold c2m at ac;split at ac
 case h_2=>cases ac
 rename_i ks eO;split at ac
 case h_2=>cases ac
 rename_i r0 rs lr;rw[cond_eq_ite]at ac;split at ac
 case isFalse=>cases ac
 rename_i aH;have jw:∀o,o.Perm ks→a4z e.m it (keep cur) ks (λF H k=>a3r E e.m N keep call lf cur (.seq (.region id au false) ag) F H k) [] o F H=some r0:=by
  intro o ho;have hm:=e5r (f:=λo=>a4z e.m it (keep cur) ks (λF H k=>a3r E e.m N keep call lf cur (.seq (.region id au false) ag) F H k) [] o F H) (b5i ho);rw[lr]at hm;rcases e3b.1 hm with h|h
  ·exact h
  ·exact c1b (e3n.1 aH _ h)
 refine b2n (n:=ks.length+1) (λn a w=>∃F H I ρ bj R,Now E e N F H I ρ a w∧R.length+1=n∧(bj++R).Perm ks∧
  ∀o,o.Perm R→a4z e.m it (keep cur) ks (λF H k=>a3r E e.m N keep call lf cur (.seq (.region id au false) ag) F H k) bj o F H=some r0) ?_ ?_ ⟨F,H,I,ρ,[],ks,ae,rfl,e7b _,jw⟩
 ·rintro n a w ⟨F,H,I,ρ,bj,R,ae,hn,ip,jw⟩
  -- the head
  have head:∀{dG:Option Int} {e' F' H'},b1n e.m it (keep cur) ks bj (λF H k=>a3r E e.m N keep call lf cur (.seq (.region id au false) ag) F H k) dG F H=some (e',F',H')→
   ∃F1 H1 ρ1 b eK,gcD e.m (keep cur) F H=some (F1,H1)∧Now E e N F1 H1 I ρ1 a w∧a2h F1 it = .ptr b 0 0∧a03 H1 b=some (.miter ks bj eK)∧
    a3r E e.m N keep call lf cur (.seq (.region id au false) ag) F1 (H1.set b (some (.miter ks bj (some dG)))) (λe F' H'=>some (e,F',H'))=some (e',F',H'):=by
   intro dG e' F' H' hr;unfold b1n at hr;split at hr
   case h_2=>cases hr
   rename_i F1 H1 hg;split at hr
   case h_2=>cases hr
   rename_i H2 ha;unfold e3u at ha;split at ha
   case h_2=>cases ha
   rename_i b hb;split at ha
   case h_2=>cases ha
   rename_i m8 eh eK eF;rw[cond_eq_ite]at ha;split at ha
   case isFalse=>cases ha
   rename_i hc;simp only[b46,e2d]at hc;obtain⟨rfl,rfl⟩:=hc;cases ha;have gC:=hg;unfold gcD at gC;dsimp only at gC;rw[cond_eq_ite]at gC;split at gC
   case isFalse=>cases gC
   rename_i hc;simp only[b46,e3n,e5e]at hc;cases gC;obtain⟨ρ',iT⟩:=(ae.keep (keep cur)).gc (a54 hc.1.1) hc.1.2;exact⟨_,_,ρ',b,eK,hg,iT,hb,eF,hr⟩
  -- one round,after the je
  have kY:∀{dG:Option Int} {e':AExit} {F':Frm} {H':a08} {F1:Frm} {H1:a08} {ρ1:PMap} {b:Nat} {eK:Option (Option Int)} {v:AV} {o1:AObj} {c:Value} {w':World},
   Now E e N F1 H1 I ρ1 a w→a2h F1 it = .ptr b 0 0→a03 H1 b=some (.miter ks bj eK)→
   (c86 F1 (H1.set b (some (.miter ks bj (some dG)))) it=some (v,(H1.set b (some (.miter ks bj (some dG)))).set b (some o1)))→
   (Instr.next (a.eval (.tmp it)) false o0.type).run E.P w = .ok c w'→Stepped E.G I e.K ρ1 w I ρ1 ((a03 H1).eff H1.length (.set b o1)) w'→VRel I w' ρ1 v c→
   a3r E e.m N keep call lf cur (.seq (.region id au false) ag) F1 (H1.set b (some (.miter ks bj (some dG)))) (λe F' H'=>some (e,F',H'))=some (e',F',H')→
   ∀{Q':Exit→Act→World→Prop},(∀I ρ a w,Now E e N F' H' I ρ a w→Q' e'.conv a w)→(Code.seq (.region id au false) ag).wpIn (wf ro) 0 E.P Q' a w:=by
   intro dG e' F' H' F1 H1 ρ1 b eK v o1 c w' aY hb eF bH er aR hv hr Q' pg;unfold a3r at hr;unfold a3r at hr;rw[jM]at hr;simp only[Bool.false_or,cond_eq_ite]at hr;split at hr
   case isTrue=>cases hr
   rename_i aq;have aq:nx<N:=by simpa[e3f]using aq
   rw[bH]at hr;simp only[List.set_set]at hr;have fv:=aY.step (b78 eF) aR aq hv;refine wpIn_seq (wpIn_region ?_);have ak:List.range au.size=0::List.range' 1 m4.length:=by rw[List.range_eq_range',←e3i,dc,b94,List.range'_succ]
   rw[ak];have ho:au[0]?=some o0:=by
    have:au.toList[0]?=some o0:=by rw[dc];rfl
    simpa using this
   refine a61 ho (by simp[Region.wanted,tC]) ?_;refine a4t (by rw[cV];intro c hc;cases hc) ?_;have hx:(execOp a.eval o0).run E.P w = .ok (.value c) w':=by
    have:execOp a.eval o0=(do pure (.value (←Instr.next (a.eval (.tmp it)) false o0.type))):=by obtain⟨d,op,ty,pos,after,guard⟩:=o0;simp only at cV;subst cV;rfl
    rw[this];simp[er]
   rw[hx,Oper.uponIn_value,mS];refine b0q ok am (au:=au) (k:=λF' H'=>a3r E e.m N keep call lf cur ag F' H' λe F' H'=>some (e,F',H')) ?_ m4 1 _ _ _ _ _ _ _ (by rw[dc];rfl) fv hr;intro F H I ρ a w hn hk;refine cj bv ?_ hn hk;intro x F H I ρ a w hn hk;cases hk;exact pg I ρ a w hn
  -- what the iterator answers
  have je:∀{F1:Frm} {H1:a08} {ρ1:PMap} {b:Nat} {eK:Option (Option Int)},Now E e N F1 H1 I ρ1 a w→a2h F1 it = .ptr b 0 0→a03 H1 b=some (.miter ks bj eK)→
   (∃i,i∈ks∧i∉bj∧∃w',(Instr.next (a.eval (.tmp it)) false o0.type).run E.P w = .ok (.tuple #[.bool true,.int .i64 i,.bool true]) w'∧Stepped E.G I e.K ρ1 w I ρ1 ((a03 H1).eff H1.length (.set b (.miter ks (bj++[i]) none))) w')∨
    ((∀i∈ks,i∈bj)∧∃w',(Instr.next (a.eval (.tmp it)) false o0.type).run E.P w = .ok (.tuple #[.bool false]) w'∧Stepped E.G I e.K ρ1 w I ρ1 ((a03 H1).eff H1.length (.set b (.miter ks bj none))) w'):=by
   intro F1 H1 ρ1 b eK aY hb eF;have hp:=aY.frm.2 it;rw[hb]at hp;simp only[VRel]at hp;obtain⟨m,hm,kb⟩:=hp;obtain⟨m',bz,_,_,h0,_⟩:=aY.rel.live b _ eF;obtain rfl:m=m':=z9o (hm.symm.trans bz);have:a.eval (.tmp it) = .pointer (some ⟨m.blk,0,none⟩):=by show a.tmps.getD it undef=_;rw[kb,h0];simp
   rw[this];exact c85 aY.rel eF hm o0.type
  have nodup:∀{H1:a08} {ρ1:PMap} {F1:Frm} {b:Nat} {eK:Option (Option Int)},Now E e N F1 H1 I ρ1 a w→a03 H1 b=some (.miter ks bj eK)→ks.Nodup:=by
   intro H1 ρ1 F1 b eK aY eF;obtain⟨m',bz,_,_,h0,ho⟩:=aY.rel.live b _ eF;rcases ho with ⟨h1,_⟩|⟨c,es,cl,seen,_,_,hs,_⟩
   ·rw[h1];exact List.nodup_nil
   ·exact hs.2.2.1
  have bt:∀{H1:a08} {b:Nat} {eK:Option (Option Int)} (dG:Option Int),a03 H1 b=some (.miter ks bj eK)→a03 (H1.set b (some (.miter ks bj (some dG)))) b=some (.miter ks bj (some dG)):=by intro H1 b eK dG eF;rw[b0e,e3g ⟨rfl,b78 eF⟩]
  cases R with
  |nil=>
   have h1:=jw [] (e7b _);unfold a4z at h1;split at h1
   ·cases h1
   ·rename_i e' F' H' aK hr;cases h1;obtain⟨F1,H1,ρ1,b,eK,hg,aY,hb,eF,eo⟩:=head hr;rcases je aY hb eF with ⟨i,hi,p8,_⟩|⟨_,w',li,aR⟩
    ·have:=ip.mem_iff.2 hi;rw[e2h]at this;exact absurd this p8
    ·refine kY (v:=.tuple [.bool false]) (c:=.tuple #[.bool false]) aY hb eF (by unfold c86;rw[hb,];simp only[bt none eF]) li aR (by simp only[VRel];exact⟨_,rfl,by simp only[VRels];exact⟨_,_,rfl,by simp[VRel],rfl⟩⟩) eo ?_;intro I ρ a w hn;have hq:=hQ e' F' _ I ρ a w (hn.dropIt it) ac;cases e' with
     |normal=>exact(aK rfl).elim
     |exit id=>exact hq
     |ret=>exact hq
   ·cases h1
  |cons x R=>
   have h1:=jw (x::R) (e7b _);have lN:∃e' F' H',b1n e.m it (keep cur) ks bj (λF H k=>a3r E e.m N keep call lf cur (.seq (.region id au false) ag) F H k) (some x) F H=some (e',F',H'):=by
    unfold a4z at h1;split at h1
    ·rename_i F' H' hr;exact⟨_,_,_,hr⟩
    ·cases h1
   obtain⟨_,_,_,lN⟩:=lN;obtain⟨F1,H1,ρ1,b,eK,hg,aY,hb,eF,_⟩:=head lN;have dl:=nodup aY eF;rcases je aY hb eF with ⟨i,hi,p8,w',li,aR⟩|⟨oC,_⟩
   ·have tq:i∈x::R:=by
     rcases e65.1 (ip.mem_iff.2 hi)with h|h
     ·exact absurd h p8
     ·exact h
    have kb:(i::(x::R).erase i).Perm (x::R):=(List.perm_cons_erase tq).symm;have h2:=jw _ kb;unfold a4z at h2;split at h2
    case h_2=>cases h2
    rename_i F' H' hr;obtain⟨uT,uu,ρ1',b',us,gC,td,bE,tz,eo⟩:=head hr;rw[hg]at gC;cases gC;rw[hb]at bE;cases bE;refine kY (v:=.tuple [.bool true,.int .i64 i,.bool true]) (c:=.tuple #[.bool true,.int .i64 i,.bool true]) aY hb eF (by unfold c86;rw[hb];simp only[bt (some i) eF]) li aR
     (by simp only[VRel];exact⟨_,rfl,by simp only[VRels];exact⟨_,_,rfl,by simp[VRel],_,_,rfl,by simp[VRel],_,_,rfl,by simp[VRel],rfl⟩⟩) eo ?_
    intro I2 ρ2 a2 w2 fG;refine⟨F',H',I2,ρ2,bj++[i],(x::R).erase i,fG,?_,?_,?_⟩
    ·have:=kb.length_eq;simp only[b94]at this hn⊢;omega
    ·rw[e5j];exact(kb.append_left bj).trans ip
    ·intro o ho;have h3:=jw (i::o) ((ho.cons i).trans kb);unfold a4z at h3;rw[hr]at h3;exact h3
   ·have hx:x∈ks:=ip.mem_iff.1 (by simp);have lq:=ip.nodup_iff.2 dl;rw[List.nodup_append]at lq;exact absurd rfl (lq.2.2 x (oC x hx) x (by simp))
 ·rintro a w ⟨F,H,I,ρ,bj,R,_,hn,_⟩
  omega
/-! ### a loop over a function -/
theorem b2w:∀(F:List (Nat×AV)) (s:Nat),b80 F s=a2h F s
 | [],s=>rfl
 |(t,v)::F,s=>by simp only[b80,a2h,b2w F s]
theorem c3p{H:a08}{b:Nat}{st:YSt}(h:d8d H b=some st):∃y F,a03 H b=some (.yloop y F st):=by
 unfold d8d at h;split at h
 ·rename_i y F uv hb;cases h;exact⟨y,F,hb⟩
 ·cases h
theorem b7r{H H':a08}{b:Nat}{eW new:YSt}(h:d0s H b eW new=some H'):∃y F,a03 H b=some (.yloop y F eW)∧H'=H.set b (some (.yloop y F new)):=by
 unfold d0s at h;split at h
 ·rename_i y F st hb;rw[cond_eq_ite]at h;split at h
  ·rename_i aR;have aR:=of_decide_eq_true aR;subst aR;cases h;exact⟨y,F,hb,rfl⟩
  ·cases h
 ·cases h
theorem Now.yput{e:Entry}{N:Nat}{F:Frm}{H:a08}{I:Nat→Prop}{ρ:PMap}{a:Act}{w:World}(h:Now E e N F H I ρ a w){b y:Nat}{F0:Frm}{eW new:YSt}{m:Pl}{r r':Loop}
 (hb:a03 H b=some (.yloop y F0 eW))(hm:ρ b=some m)(hr:w.heap[m.blk]?=some (.loop r))(dT:r'.tmps=r.tmps∧r'.params=r.params∧r'.assign=r.assign∧r'.body=r.body)
 (aR:match new with
  |.ready=>r'.state = .ready∧r'.pending=none
  |.busy=>r'.state = .busy
  |.done j=>r'.state = .done∧r'.pending=some (c1l j)):Now E e N F (H.set b (some (.yloop y F0 new))) I ρ a (w.putObj m.blk (.loop r')):=by
 obtain⟨m',bz,eu,gT,ri,r0,h0,h1,h2,h3,h4,h5,h6,h7⟩:=h.rel.live b _ hb;obtain rfl:m=m':=z9o (hm.symm.trans bz);obtain rfl:r=r0:=by rw[hr]at h1;cases h1;rfl
 have aq:=h.rel.dom b m hm;have dm:∀c,I c→(w.putObj m.blk (.loop r')).heap[c]?=w.heap[c]?:=λc hc=>World.putObj_heap_other (λe=>eu (e▸hc));have st:Stepped E.G I e.K ρ w I ρ ((a03 H).eff H.length (.set b (.yloop y F0 new))) (w.putObj m.blk (.loop r')):=by refine a2c h.rel hb hm (by simp) (λc hc=>World.putObj_heap_other hc) rfl rfl rfl ?_;refine⟨ri,r',h0,World.putObj_heap_same aq,by rw[dT.1];exact h2,by rw[dT.2.1];exact h3,by rw[dT.2.2.1];exact h4,by rw[dT.2.2.2];exact h5,λs=>?_,aR⟩;rw[dT.1];exact VRel.mono (λ_ h=>h) dm _ (λ_ _ h=>h) (h6 s)
 have hl:(H.set b (some (AObj.yloop y F0 new))).length=H.length:=List.length_set;exact⟨h.imm,h.map,h.ext.trans h.imm st.ext,st.rel.fewer (c1y H (.set b (.yloop y F0 new))),by rw[hl];exact h.nrel,FRel.mono h.frm (λv c hv=>st.vrel hv),by rw[hl];exact h.low,h.marks.mono (λ_ h=>h) (λc hc=>st.ext.keep c (.inl hc))⟩
def YSt.jump:YSt→Option Code
 |.done j=>some (c1l j)
 |_=>none
theorem e0x(ok:EnvOk E){call:FuncId→List AV→a08→Option (AV×a08)}(am:a3d E call){fid:Nat}{e:Entry}{N lf:Nat}{keep:Nat→List Nat}{g:Operand}{ps:Array Tmp}{asg body:Code}
 {R:Type}{cur:Nat}(bv:RFOk E fid N keep none cur (.rangeFunc g ps asg body)){k:AExit→Frm→a08→Option R}{r:R}{Q:Exit→Act→World→Prop}(hQ:∀x F H I ρ a w,Now E e N F H I ρ a w→k x F H=some r→Q x.conv a w)
 {F:Frm}{H:a08}{I:Nat→Prop}{ρ:PMap}{a:Act}{w:World}(ae:Now E e N F H I ρ a w)(ac:a3r E e.m N keep call lf cur (.rangeFunc g ps asg body) F H k=some r) :
 (Code.rangeFunc g ps asg body).wpIn (wf none) 0 E.P Q a w:=by
 unfold a3r at ac;split at ac
 case h_2=>cases ac
 rename_i gf fs cs y kq hy;rw[cond_eq_ite]at ac;split at ac
 case isFalse=>cases ac
 rename_i hc;simp only[b46,e5i]at hc;obtain⟨hg,_⟩:=hc;split at ac
 case h_2=>cases ac
 rename_i v H2 σ fw;obtain⟨y',jV,nJ⟩:=bv.2 (cur,⟨N,ps.toList,asg,body,fid⟩) (by simp[rfs]);rw[hy]at jV;cases jV;have hf:=a6h ae.rel ae.frm g;rw[kq]at hf;simp only[VRel]at hf;obtain⟨di,aT,fJ,gJ,dp⟩:=hf;refine wpIn_rangeFunc (F:=Fence.wide) (λfn _=>?_)
 let rec0:Loop:={ state:=.ready,pending:=none,fn,tmps:=a.tmps,params:=ps,assign:=asg,body,defers:=w.heap.size }
 let w1:World:=w.alloc (.deferred (some []))
 let w2:World:=w1.alloc (.loop rec0)
 let m:Pl:=⟨w.heap.size+1,0,0,0⟩
 let Y:AObj:=.yloop y (a5x (keep cur) F) .ready
 have cF:w1.heap.size=w.heap.size+1:=by simp[w1]
 have st1:Stepped E.G I e.K ρ w (λc=>I c∨c=w.heap.size) ρ (a03 H) w1:=c03 ae.rel (ob:=.deferred (some [])) rfl rfl rfl rfl;have a8:∀b q,ρ b=some q→(ρ.set H.length m) b=some q:=PMap.set_old (ae.nrel _ (e2c _));have dA:∀c,c<w1.heap.size→w2.heap[c]?=w1.heap[c]?:=by intro c hc;show(w1.heap.push _)[c]?=_;rw[e5k,e2i (by omega)]
 have oR:Stepped E.G (λc=>I c∨c=w.heap.size) e.K ρ w1 (λc=>I c∨c=w.heap.size) (ρ.set H.length m) ((a03 H).eff H.length (.new Y)) w2:=by
  refine a2d st1.rel (b69 H) (ae.nrel _ (e2c _)) (ob:=.loop rec0) rfl rfl rfl rfl cF.symm ?_;refine⟨_,rec0,nJ,?_,ae.frm.1,rfl,rfl,rfl,λs=>?_,rfl,rfl⟩
  ·have:=World.alloc_heap_new w1 (.loop rec0);rw[cF]at this;exact this
  ·rw[b2w,b3o];split
   ·exact VRel.mono (λc hc=>hc) (λc hc=>dA c (st1.rel.imm c hc)) _ a8 (st1.vrel (ae.frm.2 s))
   ·simp[VRel]
 have nL:HRel E.G (λc=>I c∨c=w.heap.size) e.K (ρ.set H.length m) (a03 (H++[some Y])) w2:=oR.rel.fewer (c1y H (.new Y));have fG:NRel (ρ.set H.length m) (H++[some Y]).length:=by intro b hb;simp only[e2f,b94,e27]at hb;simp only[PMap.set];rw[e2i (by omega)];exact ae.nrel b (by omega)
 have up:∀{v:AV} {c:Value},VRel I w ρ v c→VRel (λc=>I c∨c=w.heap.size) w2 (ρ.set H.length m) v c:=λhv=>oR.vrel (st1.vrel hv);have qX:∀{v:List AV} {c:List Value},VRels I w ρ v c→VRels (λc=>I c∨c=w.heap.size) w2 (ρ.set H.length m) v c:=λhv=>oR.vrels (st1.vrels hv);have aV:VRels (λc=>I c∨c=w.heap.size) w2 (ρ.set H.length m) (fs++[.yfn H.length]++cs) (di ++ #[Value.func (.yield (w.heap.size+1)) #[] #[]]++aT).toList:=by simp only[e6z];refine VRels.append (VRels.append (qX gJ) ?_) (qX dp);simp only[VRels];exact⟨_,_,rfl,by simp only[VRel];exact⟨m,by simp[PMap.set],rfl⟩,rfl⟩
 have iZ:=b1d (am gf) fw nL fG aV;obtain⟨i,hi⟩:=e24.1 hg;rw[a3l (b20 ok hi)]at iZ;have bU:(di ++ #[Value.func (.yield (w.heap.size+1)) #[] #[]]++aT).toList.toArray=di ++ #[Value.func (.yield (w.heap.size+1)) #[] #[]]++aT:=by apply e6c;simp
 rw[bU]at iZ;refine⟨w.heap.size+1,[{ target:=.collected w.heap.size,args:=#[] }],w2,⟨.fn (.func gf) aT,di ++ #[Value.func (.yield (w.heap.size+1)) #[] #[]]⟩,w2,gf,_,w2,run_enterLoop_outer fn a.tmps ps asg body,?_,λ_ _=>trivial,?_,λh=>by simp[Fence.wide]at h,callsIn_wide.2 (Calls.mono iZ ?_)⟩
 ·have qz:a.eval (.const (Value.func (.yield (w.heap.size+1)) #[] #[]))=Value.func (.yield (w.heap.size+1)) #[] #[]:=rfl;simp only[resolve,rangeCall,fJ,Deferred.ofValue,List.map_toArray,e2b,e3a,qz];rfl
 ·simp only[invoke];exact a1u ok hg _
 rintro en w3 ⟨c,I',ρ',rfl,aB,gG⟩
 rw[e2f,e68]at aB
 -- behind the loop
 have fin:∀(st:YSt),d8d H2 H.length=some st→∀(jN:st≠ .busy),∃w4,(Instr.endLoop (w.heap.size+1)).run E.P w3 = .ok st.jump w4∧
  Now E e N F (H2.set H.length none) I' ρ' { a with defers:=[{ target:=.collected w.heap.size,args:=#[] }]++a.defers } w4:=by
  intro st aR jN;obtain⟨y1,F1,hb⟩:=c3p aR;obtain⟨m1,jl,eu,gT,uw,r1,g0,g1,g2,g3,g4,g5,g6,g7⟩:=aB.rel.live _ _ hb;have hm:ρ' H.length=some m:=by rw[aB.map _ (by omega)];simp[PMap.set]
  obtain rfl:m=m1:=z9o (hm.symm.trans jl);have lj:r1.state≠ .busy∧r1.pending=st.jump:=by
   cases st with
   |ready=>exact⟨by rw[g7.1];simp,g7.2⟩
   |busy=>exact absurd rfl jN
   |done j=>exact⟨by rw[g7.1];simp,g7.2⟩
  have ia:=run_endLoop (P:=E.P) g1 lj.1;refine⟨w3.putObj m.blk (.loop { r1 with state:=.exhausted }),by rw[←lj.2];exact ia,?_⟩;have ei:=aB.low;have ua:H.length<H2.length:=by omega
  have qY:Stepped E.G I' e.K ρ' w3 I' ρ' (a03 (H2.set H.length none)) (w3.putObj m.blk (.loop { r1 with state:=.exhausted })):=by
   refine b7v (c0:=m.blk) (aB.rel.fewer ?_) eu gT ?_ (by simp) (λc hc=>World.putObj_heap_other hc) rfl rfl rfl
   ·intro b o hb;rw[b0e]at hb;split at hb
    ·cases hb
    ·exact hb
   ·intro b o q bE hq he;rw[b0e]at bE;split at bE
    ·cases bE
    ·rename_i aK;have:=aB.rel.inj b H.length q m (by simp[bE]) (by simp[hb]) hq hm he;exact aK ⟨this.symm,ua⟩
  have pj:∀c,I c→I' c:=λc hc=>aB.imm c (.inl hc);have dP:Ext I e.K w (w3.putObj m.blk (.loop { r1 with state:=.exhausted })):=((st1.ext.trans (λ_ h=>.inl h) oR.ext).trans (λ_ h=>.inl h) aB.ext).trans pj qY.ext;have hρ':∀b q,ρ b=some q→ρ' b=some q:=by
   intro b q hq;have i8:b<H.length:=by
    rcases e6m b H.length with h|h
    ·exact h
    ·rw[ae.nrel b h]at hq;cases hq
   rw[aB.map b (by omega)];exact a8 b q hq
  have hl:(H2.set H.length none).length=H2.length:=List.length_set;refine⟨λc hc=>pj c (ae.imm c hc),λb hb=>?_,ae.ext.trans ae.imm dP,qY.rel,by rw[hl];exact aB.nrel,FRel.mono ae.frm (λv c hv=>VRel.mono pj (λc hc=>dP.keep c (.inl hc)) v hρ' hv),by rw[hl];have:=ae.low;omega,?_⟩
  ·have:=ae.low;rw[aB.map b (by omega)];simp only[PMap.set];rw[e2i (by omega)];exact ae.map b hb
  ·obtain⟨rs,q1,q2,q3⟩:=ae.marks;refine⟨w.heap.size::rs,by rw[q1];rfl,e66.2 ⟨λhm=>?_,q2⟩,?_⟩
   ·have:=(e54.1 (q3 _ hm).2.2).1;omega
   ·intro q hq;rcases e3b.1 hq with rfl|hq
    ·refine⟨aB.imm _ (.inr rfl),ae.ext.size,?_⟩;rw[World.putObj_heap_other (by show w.heap.size≠w.heap.size+1;omega),aB.ext.keep _ (.inl (.inr rfl)),dA _ (by omega)];exact World.alloc_heap_new w _
    ·obtain⟨p1,p2,p3⟩:=q3 q hq;exact⟨pj q p1,p2,by rw[dP.keep q (.inl p1)];exact p3⟩
 show rangePost Fence.wide 0 E.P (w.heap.size+1) Q _ (.returned c) w3;split at ac
 ·rename_i aR;obtain⟨w4,h1,h2⟩:=fin _ aR (by simp);exact⟨none,w4,h1,hQ .normal _ _ _ _ _ _ h2 ac⟩
 ·rename_i aR;obtain⟨w4,h1,h2⟩:=fin _ aR (by simp);exact⟨some .ret,w4,h1,wpIn_ret (hQ .ret _ _ _ _ _ _ h2 ac)⟩
 ·rename_i id aR;obtain⟨w4,h1,h2⟩:=fin _ aR (by simp);exact⟨some (.exit id),w4,h1,wpIn_exit (hQ (.exit id) _ _ _ _ _ _ h2 ac)⟩
 ·cases ac
theorem c8n(ok:EnvOk E){call:FuncId→List AV→a08→Option (AV×a08)}(am:a3d E call){fid:Nat}{ro:Option Nat}{e:Entry}{N lf:Nat}{keep:Nat→List Nat}:∀(c:Code),
 (a1p false c=true→d3p E call fid ro e N lf keep c)∧(∀x r,c = .seq x r→a1p false r=true→d3p E call fid ro e N lf keep r):=by
 intro c
 induction c with
 |skip=>exact⟨λ_ R cur bv k r Q hQ F H I ρ a w ae ac=>wpIn_skip (hQ .normal F H I ρ a w ae ac),λ_ _ h=>by cases h⟩
 |label l=>exact⟨λ_ R cur bv k r Q hQ F H I ρ a w ae ac=>wpIn_label (hQ .normal F H I ρ a w ae ac),λ_ _ h=>by cases h⟩
 |exit id=>exact⟨λ_ R cur bv k r Q hQ F H I ρ a w ae ac=>wpIn_exit (hQ (.exit id) F H I ρ a w ae ac),λ_ _ h=>by cases h⟩
 |ret=>exact⟨λ_ R cur bv k r Q hQ F H I ρ a w ae ac=>wpIn_ret (hQ .ret F H I ρ a w ae ac),λ_ _ h=>by cases h⟩
 |region id au ai=>
  refine⟨?_,λ_ _ h=>by cases h⟩;intro aR R cur bv k r Q hQ F H I ρ a w ae ac;have pg:∀F H I ρ a w,Now E e N F H I ρ a w→k .normal F H=some r→Q .normal a w:=λF H I ρ a w h hk=>hQ .normal _ H I ρ a w h hk;unfold a1p at aR;unfold a3r at ac;cases jM:c84 au.toList with
  |some x=>rw[jM]at aR;cases aR
  |none=>
   rw[jM]at aR ac;cases ai with
   |true=>exact c0b (au:=au) ok am aR pg ae ac id
   |false=>refine wpIn_region ?_;have:=b0q (ro:=ro) ok am (au:=au) pg au.toList 0 [] F H I ρ a w rfl ae ac;rw[List.range_eq_range',←e3i];exact this
 |seq x y ihx ihy=>
  refine⟨?_,λ_ _ h hd=>by cases h;exact ihy.1 hd⟩;intro aR R cur bv k r Q hQ F H I ρ a w ae ac;simp only[a1p,b46]at aR;refine wpIn_seq (ihx.1 aR.1 bv.seq1 ?_ ae ac);intro x F H I ρ a w hn hk;cases x with
  |normal=>exact ihy.1 aR.2 bv.seq2 hQ hn hk
  |exit id=>exact hQ (.exit id) F H I ρ a w hn hk
  |ret=>exact hQ .ret F H I ρ a w hn hk
 |cond c x y ihx ihy=>
  refine⟨?_,λ_ _ h=>by cases h⟩;intro aR R cur bv k r Q hQ F H I ρ a w ae ac;simp only[a1p,b46]at aR;unfold a3r at ac;split at ac
  case h_2=>cases ac
  rename_i t ht;have hc:=a6h ae.rel ae.frm c;rw[ht]at hc;simp only[VRel]at hc;cases t
  ·exact wpIn_cond_false hc (ihy.1 aR.2 bv.cond2 hQ ae ac)
  ·exact wpIn_cond_true hc (ihx.1 aR.1 bv.cond1 hQ ae ac)
 |block id b ih=>
  refine⟨?_,λ_ _ h=>by cases h⟩;intro aR R cur bv k r Q hQ F H I ρ a w ae ac;refine wpIn_block (ih.1 aR bv.block ?_ ae ac);intro x F H I ρ a w hn hk;cases x with
  |normal=>exact hQ .normal F H I ρ a w hn hk
  |exit id'=>
   simp only[AExit.conv,Exit.inBlock];dsimp only at hk;rw[cond_eq_ite]at hk;split at hk
   ·rename_i h;rw[e3g (by simpa using h)];exact hQ .normal F H I ρ a w hn hk
   ·rename_i h;rw[e2i (by simpa using h)];exact hQ (.exit id') F H I ρ a w hn hk
  |ret=>exact hQ .ret F H I ρ a w hn hk
 |loop b ih=>
  refine⟨?_,λ_ _ h=>by cases h⟩;intro aR R cur bv k r Q hQ F H I ρ a w ae ac;unfold a1p at aR;unfold a3r at ac;cases fm:a8u b with
  |some it=>
   rw[fm]at aR ac;unfold a8u at fm;split at fm
   case h_2=>cases fm
   rename_i id au ag;obtain⟨⟨sD,nx,m4⟩,h1,h2⟩:=a0g fm;simp only at h2;subst h2;have aR:a1p true (.seq (.region id au false) ag)=true:=aR;simp only[a1p,b46]at aR;exact c87 ok am (ih.2 _ _ rfl aR.2) h1 bv.loop.seq2 hQ ae ac
  |none=>
  rw[fm]at aR ac;refine b2n (n:=lf) (λn a w=>∃F H I ρ,Now E e N F H I ρ a w∧b1z e.m (keep cur) (λF H k=>a3r E e.m N keep call lf cur b F H k) n F H (λx F H=>bif d4i (keep cur)then k x (c5t (e.m+d0c (keep cur)) H F) (c3n (e.m+d0c (keep cur)) H)else k x F H)=some r) ?_ ?_ ⟨F,H,I,ρ,ae,ac⟩
  ·rintro n a w ⟨F,H,I,ρ,ae,ac⟩
   unfold b1z at ac;dsimp only at ac;rw[cond_eq_ite]at ac;split at ac
   case isFalse=>cases ac
   rename_i hc;simp only[b46,e3n,e5e]at hc;obtain⟨ρ',iT⟩:=(ae.keep (keep cur)).gc (a54 hc.1.1) hc.1.2;refine ih.1 aR bv.loop ?_ iT ac;intro x F H I ρ a w hn hk;have hz:∀x,(bif d4i (keep cur)then k x (c5t (e.m+d0c (keep cur)) H F) (c3n (e.m+d0c (keep cur)) H)else k x F H)=some r→Q x.conv a w:=by
    intro x hk;rw[cond_eq_ite]at hk;split at hk
    ·obtain⟨I',ρ',h'⟩:=hn.frz (d0c (keep cur));exact hQ x _ _ I' ρ' a w h' hk
    ·exact hQ x F H I ρ a w hn hk
   cases x with
   |normal=>exact⟨F,H,I,ρ,hn,hk⟩
   |exit id=>exact hz _ hk
   |ret=>exact hz _ hk
  ·rintro a w ⟨F,H,I,ρ,_,ac⟩
   simp[b1z]at ac
 |scope b ih=>
  refine⟨?_,λ_ _ h=>by cases h⟩;intro aR R cur bv k r Q hQ F H I ρ a w ae ac;refine a8y (ih.1 aR bv.scope ?_ ae ac);intro x F H I ρ a w hn hk;cases x with
  |normal=>exact hQ .normal F H I ρ a w hn hk
  |exit id=>exact hQ (.exit id) F H I ρ a w hn hk
  |ret=>exact hQ .ret F H I ρ a w hn hk
 |rangeFunc f ps as b=>
  refine⟨λ_ R cur bv k r Q hQ F H I ρ a w ae ac=>?_,λ_ _ h=>by cases h⟩;cases ro with
  |none=>exact e0x ok am bv hQ ae ac
  |some l=>have:=bv.1 rfl;simp[b4n]at this
 |goto l=>exact⟨λ_ R cur bv k r Q hQ F H I ρ a w ae ac=>by simp[a3r]at ac,λ_ _ h=>by cases h⟩
 |refuse s=>exact⟨λ_ R cur bv k r Q hQ F H I ρ a w ae ac=>by simp[a3r]at ac,λ_ _ h=>by cases h⟩
theorem a5j(ok:EnvOk E){call:FuncId→List AV→a08→Option (AV×a08)}(am:a3d E call){fid:Nat}{ro:Option Nat}{e:Entry}{N lf:Nat}{keep:Nat→List Nat}{R:Type}(c:Code)(hd:a83 c=true)
 {cur:Nat}(bv:RFOk E fid N keep ro cur c){k:AExit→Frm→a08→Option R}{r:R}{Q:Exit→Act→World→Prop}(hQ:∀x F H I ρ a w,Now E e N F H I ρ a w→k x F H=some r→Q x.conv a w)
 {F:Frm}{H:a08}{I:Nat→Prop}{ρ:PMap}{a:Act}{w:World}(ae:Now E e N F H I ρ a w)(ac:a3r E e.m N keep call lf cur c F H k=some r):c.wpIn (wf ro) 0 E.P Q a w:=
 (c8n ok am c).1 hd bv hQ ae ac
/-! ### a round -/
theorem c1t{I:Nat→Prop}{w:World}{ρ:PMap}{N:Nat}:∀{ps:List Nat} {vs:List AV} {cs:List Value} {F:Frm} {t:Array Value},FRel I w ρ N F t→VRels I w ρ vs cs→vs.length=ps.length→(∀p∈ps,p<N)→
 FRel I w ρ N (c08 F ps vs) ((ps.zip cs).foldl (λt (p,c)=>t.setIfInBounds p c) t)
 | [],[],cs,F,t,hF,h,_,_=>by simp only[VRels]at h;subst h;simpa[c08]using hF
 | [],_::_,_,_,_,_,_,h,_=>by simp at h
 |_::_,[],_,_,_,_,_,h,_=>by simp at h
 |p::ps,v::vs,cs,F,t,hF,h,hl,hp=>by simp only[VRels]at h;obtain⟨c,aT,rfl,h1,h2⟩:=h;simp only[c08,List.zip_cons_cons,List.foldl_cons];have:=FRel.set (a:={ tmps:=t,defers:=[] }) (d:=some p) hF (λs hs=>by cases hs;exact hp p (by simp)) h1;exact c1t this h2 (by simpa using hl) (λq hq=>hp q (by simp[hq]))
def d89(E:Env):Prop:=∀y ri,E.G.rnd y=some ri→a83 ri.asg=true∧a83 ri.body=true∧b4n ri.asg=true∧b4n ri.body=true
theorem c0a(ok:EnvOk E)(pT:d89 E){call:FuncId→List AV→a08→Option (AV×a08)}(am:a3d E call)(lf:Nat):a4h E yId (a8e E call lf):=by
 intro args H v H' ac I K ρ w ah rel hn ha;rw[d3o];unfold a8e at ac;split at ac
 case h_2=>cases ac
 rename_i b vs;split at ac
 case h_2=>cases ac
 rename_i y F hb;split at ac
 case h_2=>cases ac
 rename_i ri nJ;rw[cond_eq_ite]at ac;split at ac
 case isFalse=>cases ac
 rename_i hc;simp only[b46,e5a,e3n,e3f]at hc;obtain⟨ak,im⟩:=hc;simp only[VRels]at ha;obtain⟨c0,pk,rfl,h0,iH⟩:=ha;simp only[VRel]at h0;obtain⟨m,hm,rfl⟩:=h0;obtain⟨m',bz,eu,gT,ux,r,g0,g1,g2,g3,g4,g5,g6,g7⟩:=rel.live b _ hb;obtain rfl:m=m':=z9o (hm.symm.trans bz);rw[nJ]at g0;cases g0;obtain⟨d1,d2,d3,d4⟩:=pT y ri nJ;have bA:pk.toArray.size=r.params.size:=by have:=VRels.length iH;rw[←e3i (xs:=r.params),g3];simp;omega
 refine⟨m.blk,pk,r.fn,_,r.assign,r.body,rfl,run_yield g1 bA,roundIn_of_wpIn (F:=Fence.wide) trivial ?_⟩;rw[g4]
 let e:Entry:=⟨I,K,ρ,H.length,w,[]⟩
 have qF:b<H.length:=b78 hb;have qn:FRel I w ρ ri.N (c08 F ri.ps vs) ((r.params.zip pk.toArray).foldl (λtmps (t,a)=>tmps.setIfInBounds t a) r.tmps):=by
  have h1:FRel I w ρ ri.N F r.tmps:=⟨g2,λs=>by have:=g6 s;rwa [b2w]at this⟩
  have:=c1t (ps:=ri.ps) h1 iH ak im;rw[←g3]at this⊢;rw[←Array.foldl_toList,Array.toList_zip];exact this
 have ae:Now E e ri.N (c08 F ri.ps vs) H I ρ { tmps:=(r.params.zip pk.toArray).foldl (λtmps (t,a)=>tmps.setIfInBounds t a) r.tmps,defers:=[] } w:=⟨λ_ h=>h,λ_ _=>rfl,Ext.refl _ _ _,rel,hn,qn,e2c _,Marks.nil⟩
 have rf:∀c,b4n c=true→RFOk E ri.fid ri.N (E.keep ri.fid) (some m.blk) 0 c:=λc h=>⟨λ_=>h,λx hx=>by rw[a5p c 0 h]at hx;cases hx⟩
 refine a5j (e:=e) (ro:=some m.blk) ok am ri.asg d1 (rf _ d3) ?_ ae ac;intro x F1 H1 I1 ρ1 a1 w1 aY hk
 -- the record,wherever the run has come to
 have lD:∀{F1 H1 I1 ρ1 a1 w1 y1 F0 st},Now E e ri.N F1 H1 I1 ρ1 a1 w1→a03 H1 b=some (.yloop y1 F0 st)→ρ1 b=some m∧∃r1:Loop,w1.heap[m.blk]?=some (.loop r1)∧(st = .ready→r1.state = .ready):=by
  intro F1 H1 I1 ρ1 a1 w1 y1 F0 st aY du;have jl:ρ1 b=some m:=by rw[aY.map b qF];exact hm
  obtain⟨m1,q1,_,_,_,r1,_,q2,_,_,_,_,_,q3⟩:=aY.rel.live b _ du;obtain rfl:m=m1:=z9o (jl.symm.trans q1);exact⟨jl,r1,q2,λe=>by subst e;exact q3.1⟩
 cases x with
 |exit id=>cases hk
 |ret=>cases hk
 |normal=>
  dsimp only at hk;split at hk
  case h_2=>cases hk
  rename_i uu mj;obtain⟨y1,F0,du,rfl⟩:=b7r mj;obtain⟨jl,r1,eo,lj⟩:=lD aY du;have fG:=aY.yput (new:=.busy) (r':={ r1 with state:=.busy }) du jl eo ⟨rfl,rfl,rfl,rfl⟩ rfl;refine⟨_,run_beginRound eo (lj rfl),?_⟩;rw[g5];refine a5j (e:=e) (ro:=some m.blk) ok am ri.body d2 (rf _ d4) ?_ fG hk;intro x F3 H3 I3 ρ3 a3 w3 fv hk;have fin:∀(new:YSt) (bb:Bool) (jump:Option Code),jump.isNone=bb→(d0s H3 b .busy new).map (.bool bb,·)=some (v,H')→(match new with
   |.ready=>jump=none
   |.busy=>False
   |.done j=>jump=some (c1l j))→
   ∃v1 w4,(Instr.endRound m.blk jump).run E.P w3 = .ok v1 w4∧∃c I' ρ',Ending.returned v1 = .returned c∧Ret E I K ρ H.length w I' ρ' H' w4∧VRel I' w4 ρ' v c:=by
   intro new bb jump hj hk bu;obtain⟨H4,mj,he⟩:=a0g hk;cases he;obtain⟨y3,F4,rO,rfl⟩:=b7r mj;obtain⟨th,r3,na,_⟩:=lD fv rO;have eN:=fv.yput (new:=new) (r':={ r3 with state:=if jump.isNone then .ready else .done,pending:=jump }) rO th na ⟨rfl,rfl,rfl,rfl⟩ (by
    cases new with
    |ready=>dsimp only at bu⊢;subst bu;exact⟨rfl,rfl⟩
    |busy=>exact bu.elim
    |done j=>dsimp only at bu⊢;subst bu;exact⟨rfl,rfl⟩)
   exact⟨_,_,run_endRound jump na,_,I3,ρ3,rfl,⟨eN.imm,eN.map,eN.ext,eN.rel,eN.nrel,eN.low⟩,by simp only[VRel];rw[hj]⟩
  cases x with
  |normal=>exact fin .ready true none rfl hk rfl
  |ret=>exact fin (.done none) false (some .ret) rfl hk rfl
  |exit id=>exact fin (.done (some id)) false (some (.exit id)) rfl hk rfl
end
end Go.Ax
/- AxFun: functions. -/
namespace Go.Ax
section
variable {E:Env}{I K:Nat→Prop}{ρ:PMap}{h:FHeap}{w:World}
theorem c6r(ok:EnvOk E)(r:HRel E.G I K ρ h w){t:TypeId}{p v:AV}{c:Value}(hl:a7a E h t p=some v)(hp:VRel I w ρ p c) :
 ∃a d,c = .pointer (some a)∧(loadVar t a).run E.P w = .ok d w∧VRel I w ρ v d:=by
 cases p with
 |ptr b i o=>
  simp only[a7a]at hl;cases hb:h b with
  |none=>simp[hb]at hl
  |some ob=>
   cases ob with
   |row k aa=>
    simp only[hb]at hl;cases hr:aa[i]? with
    |none=>simp[hr]at hl
    |some rw'=>
     simp only[hr]at hl;obtain⟨m,hm,_,_,ho⟩:=r.live b _ hb;obtain⟨hk,eR,_,aD⟩:=ho;obtain⟨ak,ey⟩:=VRows.get i aD hr;simp only[VRel]at hp;obtain⟨m',bz,rfl⟩:=hp;obtain rfl:m=m':=z9o (hm.symm.trans bz);by_cases bA:o≤rw'.length
     ·have kE:VAt I w ρ ((rw'.drop o).take (E.sz t)) m.blk (m.off+i*m.k+o):=by
       rw[hk];exact VAt.take _ (VAt.drop o bA ey)
      obtain⟨c,hc,hv⟩:=a6q ok hl kE;exact⟨_,c,rfl,hc,hv⟩
     ·have:rw'.drop o=[]:=e6x (by omega);rw[this]at hl;unfold a2q at hl;simp only[List.take_nil,e27]at hl;rw[cond_eq_ite]at hl;split at hl
      ·rename_i h0;cases hd:E.und t with
       |none=>simp[hd]at hl
       |some d=>
        simp only[hd]at hl;have h0:E.sz t=0:=(show 0=E.sz t by simpa using h0).symm;cases eU:a2l d with
        |true=>simp[eU]at hl;subst hl;refine⟨_,.agg #[],rfl,?_,by simp only[VRel];exact⟨#[],rfl,by simp[VRels]⟩⟩;simp[loadVar,b2y ok w hd,eU,a2z ok w hd,h0,loadCells,loadCellsFrom]
        |false=>simp[eU]at hl
      ·cases hl
   |map ks vs bs cl=>simp[hb]at hl
   |siter s pos=>simp[hb]at hl
   |uset ks=>simp[hb]at hl
   |miter ks eh eK=>simp[hb]at hl
   |yloop y Fy st=>simp[hb]at hl
   |trow t x k aa=>simp[hb]at hl
 |iptr cs=>simp only[a7a]at hl;simp only[VRel]at hp;obtain⟨b,off,rfl,hI,ey⟩:=hp;obtain⟨c,hc,hv⟩:=a6q ok hl (VAt.take _ ey);exact⟨_,c,rfl,hc,VRel.noRef_any hv⟩
 |_=>simp[a7a]at hl
def d8q(tmps:Array Value):ResultVar→Sem Value:=fun
 |.tmp t=>pure (tmps.getD t undef)
 |.cell a t=>do loadVar t (←asAddr (tmps.getD a undef))
theorem a9f(ok:EnvOk E){H:a08}{F:Frm}{tmps:Array Value}(r:HRel E.G I K ρ (a03 H) w)(hF:∀s,VRel I w ρ (a2h F s) (tmps.getD s undef)) :
 ∀(rs:List ResultVar) {vs:List AV},a1l E F H rs=some vs→∃cs:List Value,(rs.mapM (d8q tmps)).run E.P w = .ok cs w∧VRels I w ρ vs cs
 | [],vs,ha=>by simp only[a1l,Option.some.injEq]at ha;subst ha;exact⟨[],by simp,by simp[VRels]⟩
 |.tmp t::rs,vs,ha=>by
  unfold a1l at ha;split at ha
  case h_2=>cases ha
  rename_i fC h1;cases ha;obtain⟨cs,h2,h3⟩:=a9f ok r hF rs h1;refine⟨tmps.getD t undef::cs,?_,by simp only[VRels];exact⟨_,_,rfl,hF t,h3⟩⟩;simp only[List.mapM_cons,d8q,Sem.run_bind,Sem.run_pure,Result.andThen_ok,h2]
 |.cell a t::rs,vs,ha=>by
  unfold a1l at ha;split at ha
  case h_2=>cases ha
  rename_i v fC h0 h1;cases ha;obtain⟨cs,h2,h3⟩:=a9f ok r hF rs h1;obtain⟨ad,d,h4,h5,h6⟩:=c6r ok r h0 (hF a);refine⟨d::cs,?_,by simp only[VRels];exact⟨_,_,rfl,h6,h3⟩⟩;simp only[List.mapM_cons,d8q,h4,asAddr,Sem.run_bind,Sem.run_pure,Result.andThen_ok,h2,h5]
theorem b0t(ok:EnvOk E){fn:Func}{H:a08}{F:Frm}{tmps:Array Value}(r:HRel E.G I K ρ (a03 H) w)(hF:∀s,VRel I w ρ (a2h F s) (tmps.getD s undef)){vs:List AV}(ha:a1l E F H fn.results.toList=some vs) :
 ∃c,(results fn tmps).run E.P w = .ok c w∧VRel I w ρ (a7t vs) c:=by
 obtain⟨cs,h1,h2⟩:=a9f ok r hF _ ha;have ac:(results fn tmps).run E.P w = .ok (if h:cs.toArray.size=1 then cs.toArray[0]else .tuple cs.toArray) w:=by have:results fn tmps=(do let vs←fn.results.mapM (d8q tmps);pure (if h:vs.size=1 then vs[0]else .tuple vs)):=rfl;rw[this,Array.mapM_eq_mapM_toList];simp only[bind_map_left,Sem.run_bind,h1,Result.andThen_ok,Sem.run_pure]
 refine⟨_,ac,?_⟩
 match vs,cs,h2 with
 | [],cs,h2=>simp only[VRels]at h2;subst h2;simp only[a7t,VRel];exact⟨#[],by simp,by simp[VRels]⟩
 | [v],cs,h2=>simp only[VRels]at h2;obtain⟨c,aT,rfl,h3,rfl⟩:=h2;simpa[a7t]using h3
 |v::v'::vs,cs,h2=>have uo:=h2;simp only[VRels]at h2;obtain⟨c,_,rfl,_,c',aT,rfl,_,_⟩:=h2;simp only[a7t,VRel];exact⟨_,by simp,uo⟩
theorem b5v:∀(args:List AV) (i s:Nat),a2h (a3k i args) s=if i≤s then(args[s-i]?).getD .junk else .junk
 | [],i,s=>by simp[a3k,a2h]
 |v::vs,i,s=>by
  simp only[a3k,a2h,c3l,b5v vs (i+1) s];by_cases h:i=s
  ·subst h;simp
  ·rw[e3o.2 h];by_cases h1:i<s
   ·simp only[e3p];rw[e3g (by omega),e3g (by omega),show s-i=(s-(i+1))+1 by omega,e51]
   ·simp only[e3p];rw[e2i (by omega),e2i (by omega)]
theorem b03{args:List AV}{ah:List Value}{n:Nat}(hn:args.length≤n)(h:VRels I w ρ args ah):FRel I w ρ n (a3k 0 args) (ah.toArray++Array.replicate (n-ah.toArray.size) undef):=by
 have ak:=VRels.length h;refine⟨by simp;omega,λs=>?_⟩;rw[b5v];simp only[e3h,e78,Nat.sub_zero];cases hs:args[s]? with
 |none=>simp[VRel]
 |some v=>have fE:=(e26.1 hs).1;obtain⟨c,hc,hv⟩:=VRels.get s h hs;simp only[e64,e53];rw[e5s (by simp;omega)];simp only[e5v,hc,e64];exact hv
theorem d0a{m:Nat}{v v':AV}{c:Value}{H:a08}(iI:a4w m true (a8w (a03 H) m 12) v=some v')(hm:m≤H.length)(r:HRel E.G I K ρ (a03 H) w)(hn:NRel ρ H.length)(hv:VRel I w ρ v c) :
 ∃I' ρ',(∀c,I c→I' c)∧(∀b,b<m→ρ' b=ρ b)∧HRel E.G I' K ρ' (a03 ((H.take m).map (Option.map (a0t (a1v m))))) w∧NRel ρ' ((H.take m).map (Option.map (a0t (a1v m)))).length∧m≤((H.take m).map (Option.map (a0t (a1v m)))).length∧VRel I' w ρ' v' c:=by
 have ak:((H.take m).map (Option.map (a0t (a1v m)))).length=m:=by simp;omega
 obtain⟨h1,h2⟩:=b00 (h':=a03 ((H.take m).map (Option.map (a0t (a1v m))))) r iI hv (by
  intro b o' hb;simp only[a03,e2e,e5g]at hb;split at hb
  case isFalse=>simp at hb
  rename_i aq;cases hx:H[b]? with
  |none=>rw[hx]at hb;simp at hb
  |some ob=>rw[hx]at hb;simp only[e2a,e63]at hb;obtain⟨o,rfl,rfl⟩:=a0g hb;exact⟨o,aq,by simp[a03,hx],rfl⟩)
 refine⟨_,_,λ_ h=>.inl h,λb hb=>by simp[PMap.below,hb],h1,?_,by rw[ak];exact e2c _,h2⟩;intro b hb;rw[ak]at hb;simp only[PMap.below];rw[e2i (by omega)]
theorem d22{m:Nat}{v v':AV}{c:Value}{H H':a08}(hf:d98 m v H=some (v',H'))(hm:m≤H.length)(r:HRel E.G I K ρ (a03 H) w)(hn:NRel ρ H.length)(hv:VRel I w ρ v c) :
 ∃I' ρ',(∀c,I c→I' c)∧(∀b,b<m→ρ' b=ρ b)∧HRel E.G I' K ρ' (a03 H') w∧NRel ρ' H'.length∧m≤H'.length∧VRel I' w ρ' v' c:=by
 unfold d98 at hf;split at hf
 case h_2=>cases hf;exact⟨I,ρ,λ_ h=>h,λ_ _=>rfl,r,hn,hm,hv⟩
 case h_3=>cases hf;exact⟨I,ρ,λ_ h=>h,λ_ _=>rfl,r,hn,hm,hv⟩
 case h_4=>cases hf;exact⟨I,ρ,λ_ h=>h,λ_ _=>rfl,r,hn,hm,hv⟩
 case h_5=>cases hf;exact⟨I,ρ,λ_ h=>h,λ_ _=>rfl,r,hn,hm,hv⟩
 case h_6=>cases hf;exact⟨I,ρ,λ_ h=>h,λ_ _=>rfl,r,hn,hm,hv⟩
 case h_7=>cases hf;obtain⟨I',ρ',f⟩:=d0a (v:=.nilslice) (v':=.nilslice) rfl hm r hn hv;exact⟨I',ρ',f⟩
 case h_8=>cases hf
 rename_i b i o;rw[cond_eq_ite]at hf;split at hf
 case isFalse=>cases hf
 rename_i tg;rw[e5e]at tg;split at hf
 case h_2=>cases hf
 rename_i k aa hb;split at hf
 case h_2=>cases hf
 rename_i cu iI;cases hf;simp only[VRel]at hv;obtain⟨p,hp,rfl⟩:=hv;obtain⟨p',fF,eu,gT,hk,eR,⟨b6,e,nk,oE,qL⟩,aD⟩:=r.live b _ hb;obtain rfl:p=p':=z9o (hp.symm.trans fF);have oT:∀x,a5u (a03 H) b x=if x=b then none else a03 H x:=by
  intro x;unfold a5u;by_cases h:x=b
  ·subst h;rw[e3g rfl,show Nat.beq x x=true from Nat.beq_refl x];rfl
  ·rw[e2i h,show Nat.beq x b=false from by
    cases hq:Nat.beq x b with
    |false=>rfl
    |true=>exact absurd (e6l hq) h]
   rfl
 have r0:HRel E.G I K ρ (a5u (a03 H) b) w:=r.fewer (λx ob hx=>by
  rw[oT]at hx;split at hx
  ·cases hx
  ·exact hx)
 have ak:((H.take m).map (Option.map (a0t (a1v m)))).length=m:=by simp;omega
 have ei:∀x o',a03 ((H.take m).map (Option.map (a0t (a1v m)))) x=some o'→∃o,x<m∧a5u (a03 H) b x=some o∧o'=a0t (a1v m) o:=by
  intro x o' hx;simp only[a03,e2e,e5g]at hx;split at hx
  case isFalse=>simp at hx
  rename_i aq;cases hxx:H[x]? with
  |none=>rw[hxx]at hx;simp at hx
  |some ob=>rw[hxx]at hx;simp only[e2a,e63]at hx;obtain⟨o,rfl,rfl⟩:=a0g hx;exact⟨o,aq,by rw[oT,e2i (by omega)];simp[a03,hxx],rfl⟩
 have h1:=(b00 (h':=a03 ((H.take m).map (Option.map (a0t (a1v m))))) r0 (v:=.junk) (v':=.junk) (c:=.nilFunc) (n:=12) (m:=m) rfl (by simp[VRel]) ei).1;have qb:¬a3m I ρ (a5u (a03 H) b) m p.blk:=by
  rintro(hc|⟨b',o',q,bE,ep,hq,he⟩)
  ·exact eu hc
  ·rw[oT]at ep;split at ep
   ·cases ep
   ·rename_i aK;exact aK (r.inj b' b q p (by simp[ep]) (by simp[hb]) hq hp he)
 have hI:∀c,I c→a3m I ρ (a5u (a03 H) b) m c:=λc hc=>.inl hc;have j8:=c0p hI (a58 r0 12) aa iI aD
 let ρ':PMap:=λx=>if x=m then some p else ρ.below m true x
 have hρ:∀x q,ρ.below m true x=some q→ρ' x=some q:=by
  intro x q hx;have aq:x<m:=by
   simp only[PMap.below]at hx;split at hx
   ·rename_i h;exact h.2
   ·cases hx
  show(if x=m then some p else ρ.below m true x)=some q;rw[e2i (by omega)];exact hx
 have rV:∀x,a03 ((H.take m).map (Option.map (a0t (a1v m)))++[some (.row k cu)]) x=if x=m then some (.row k cu)else a03 ((H.take m).map (Option.map (a0t (a1v m)))) x:=by
  intro x;unfold a03;by_cases hx:x<m
  ·rw[e3q (by rw[ak];exact hx),e2i (by omega)]
  ·rw[e3l (by rw[ak];omega),ak];by_cases lc:x=m
   ·subst lc;rw[e3g rfl,Nat.sub_self];rfl
   ·rw[e2i lc];have e1:([some (AObj.row k cu)]:a08)[x-m]?=none:=e52 (by simp;omega);have e2:((H.take m).map (Option.map (a0t (a1v m))))[x]?=none:=e52 (by rw[ak];omega);rw[e1,e2]
 refine⟨a3m I ρ (a5u (a03 H) b) m,ρ',hI,?_,?_,?_,?_,?_⟩
 ·intro x hx;show(if x=m then some p else ρ.below m true x)=ρ x;rw[e2i (by omega)];simp[PMap.below,hx]
 ·refine⟨?_,?_,?_,h1.imm,h1.kept,h1.apart,?_⟩
  ·intro x ob hx;rw[rV]at hx;split at hx
   ·rename_i lc;cases hx;refine⟨p,by show(if x=m then some p else _)=some p;rw[e3g lc],qb,gT,hk,eR,⟨b6,e,nk,oE,by rw[a98 iI];exact qL⟩,?_⟩;exact VRows.mono (λ_ h=>h) (λ_ _=>rfl) cu hρ rfl j8
   ·obtain⟨q,hq,h3,h4,h5⟩:=h1.live x ob hx;exact⟨q,hρ x q hq,h3,h4,ORel.mono ob (λ_ h=>h) (λ_ _=>rfl) hρ rfl h5⟩
  ·intro x y q q' hx hy rq pV he;rw[rV]at hx hy;have low:∀z q,z≠m→(a03 ((H.take m).map (Option.map (a0t (a1v m)))) z).isSome→ρ' z=some q→ρ.below m true z=some q∧z<m∧ρ z=some q∧(a03 H z).isSome:=by
    intro z q hz hs hq;have jv:ρ.below m true z=some q:=by have:(if z=m then some p else ρ.below m true z)=some q:=hq;rw[e2i hz]at this;exact this
    obtain⟨ob,ho⟩:=e24.1 hs;obtain⟨o1,aq,cH,_⟩:=ei z ob ho;rw[oT,e2i (by omega)]at cH;refine⟨jv,aq,?_,by rw[cH];rfl⟩;simp only[PMap.below]at jv;rw[e3g ⟨trivial,aq⟩]at jv;exact jv
   by_cases lc:x=m
   ·by_cases ml:y=m
    ·rw[lc,ml]
    ·exfalso;rw[e2i ml]at hy;obtain⟨_,h4,h5,h6⟩:=low y q' ml hy pV;have pW:q=p:=by
      have:(if x=m then some p else ρ.below m true x)=some q:=rq;rw[e3g lc]at this;exact(z9o this).symm
     subst pW;have:=r.inj b y q q' (by simp[hb]) h6 hp h5 he;omega
   ·rw[e2i lc]at hx;obtain⟨h3,h4,h5,h6⟩:=low x q lc hx rq;by_cases ml:y=m
    ·exfalso;have pW:q'=p:=by
      have:(if y=m then some p else ρ.below m true y)=some q':=pV;rw[e3g ml]at this;exact(z9o this).symm
     subst pW;have:=r.inj x b q q' h6 (by simp[hb]) h5 hp he;omega
    ·rw[e2i ml]at hy;obtain⟨g3,_⟩:=low y q' ml hy pV;exact h1.inj x y q q' hx hy h3 g3 he
  ·intro x q hx;have:(if x=m then some p else ρ.below m true x)=some q:=hx;split at this
   ·cases this;exact r.dom b p hp
   ·exact h1.dom x q this
  ·intro g cs hg;exact h1.glob g cs hg
 ·intro x hx;rw[e2f,ak]at hx;simp only[b94,e27]at hx;show(if x=m then some p else ρ.below m true x)=none;rw[e2i (by omega)];simp only[PMap.below];rw[e2i (by omega)]
 ·rw[e2f,ak];omega
 ·simp only[VRel];exact⟨p,by show(if m=m then some p else _)=some p;rw[e3g rfl],rfl⟩
theorem b98{thaw:Bool}{m:Nat}{v v':AV}{c:Value}{H H':a08}(hf:a5t thaw m v H=some (v',H'))(hm:m≤H.length)(r:HRel E.G I K ρ (a03 H) w)(hn:NRel ρ H.length)(hv:VRel I w ρ v c) :
 ∃I' ρ',(∀c,I c→I' c)∧(∀b,b<m→ρ' b=ρ b)∧HRel E.G I' K ρ' (a03 H') w∧NRel ρ' H'.length∧m≤H'.length∧VRel I' w ρ' v' c:=by
 unfold a5t at hf;rw[cond_eq_ite]at hf;split at hf
 ·rw[cond_eq_ite]at hf;split at hf
  ·exact d22 hf hm r hn hv
  ·cases hf;exact⟨I,ρ,λ_ h=>h,λ_ _=>rfl,r,hn,hm,hv⟩
 ·split at hf
  case h_2=>cases hf;exact⟨I,ρ,λ_ h=>h,λ_ _=>rfl,r,hn,hm,hv⟩
  rename_i v1 iI;cases hf;exact d0a iI hm r hn hv
theorem d2o{g:FuncId}{m:Nat}{v v':AV}{c:Value}{H H':a08}(hf:d0e E g m v H=some (v',H'))(hm:m≤H.length)(r:HRel E.G I K ρ (a03 H) w)(hn:NRel ρ H.length)(hv:VRel I w ρ v c) :
 ∃I' ρ',(∀c,I c→I' c)∧(∀b,b<m→ρ' b=ρ b)∧HRel E.G I' K ρ' (a03 H') w∧NRel ρ' H'.length∧m≤H'.length∧VRel I' w ρ' v' c:=by
 unfold d0e at hf;rw[cond_eq_ite]at hf;split at hf
 ·cases hf;exact⟨I,ρ,λ_ h=>h,λ_ _=>rfl,r,hn,hm,hv⟩
 ·exact b98 hf hm r hn hv
end
structure DrOk(E:Env):Prop where
 draws:∀f i,E.fn f=some i→a83 i.code=true
 rf:∀f i,E.fn f=some i→∀x∈rfs i.ntmps f 0 i.code,∃y,yOf (E.keep f x.1)=some y∧E.G.rnd y=some x.2
 rnd:d89 E
 prim:∀f args H v H1,primH E f args H=some (v,H1)→a4h E f (primH E f)
theorem DrOk.code{E:Env}(h:DrOk E){f:FuncId}{i:FInfo}(hi:E.fn f=some i):RFOk E f i.ntmps (E.keep f) none 0 i.code:=⟨λh=>by simp at h,h.rf f i hi⟩
def e1q(E:Env)(g:FuncId)(m:Nat)(rs:List ResultVar):AExit→Frm→a08→Option (AV×a08)
 |.exit _,_,_=>none
 |_,F,H=>match a1l E F H rs with
  |some vs=>d0e E g m (a7t vs) H
  |none=>none
theorem d74{E:Env}(ok:EnvOk E){g:FuncId}{i:FInfo}(hi:E.fn g=some i){args:List AV}{H H':a08}{v:AV}(aN:Nat.ble args.length i.ntmps=true)
 {k:AExit→Frm→a08→Option (AV×a08)}(n9:∀x F1 H1 r,k x F1 H1=some r→e1q E g H.length i.results x F1 H1=some r)
 (kB:∀{e:Entry} {Q:Exit→Act→World→Prop},e.m=H.length→(∀x F1 H1 I ρ a w,Now E e i.ntmps F1 H1 I ρ a w→k x F1 H1=some (v,H')→Q x.conv a w)→
  ∀{I:Nat→Prop} {ρ:PMap} {a:Act} {w:World},Now E e i.ntmps (a3k 0 args) H I ρ a w→i.code.wpIn (wf none) 0 E.P Q a w)
 {I K:Nat→Prop}{ρ:PMap}{w:World}{ah:List Value}(rel:HRel E.G I K ρ (a03 H) w)(hn:NRel ρ H.length)(ha:VRels I w ρ args ah) :
 XOf E g ah w λen w'=>∃c I' ρ',en = .returned c∧Ret E I K ρ H.length w I' ρ' H' w'∧VRel I' w' ρ' v c:=by
 obtain⟨fn,h1,h2,h3,h4,_⟩:=ok.fn g i hi;rw[a3l (b20 ok hi)];refine callsIn_wide.1 (callsIn_of_wp_marks (F:=Fence.wide) (n:=0) h1 h2 trivial ?_);rw[h3]
 let e:Entry:=⟨I,K,ρ,H.length,w,[]⟩
 have ae:Now E e i.ntmps (a3k 0 args) H I ρ { tmps:=ah.toArray++Array.replicate (i.ntmps-ah.toArray.size) undef,defers:=[] } w:=⟨λ_ h=>h,λ_ _=>rfl,Ext.refl _ _ _,rel,hn,b03 (by simpa[e5e]using aN) ha,e2c _,Marks.nil⟩
 refine kB (e:=e) rfl ?_ ae;intro x F1 H1 I1 ρ1 a w1 aY hk;have hk:=n9 _ _ _ _ hk;have fin:(match a1l E F1 H1 i.results with
  |some vs=>d0e E g H.length (a7t vs) H1
  |none=>none)=some (v,H')→LeavesInM Fence.wide 0 E.P fn a.tmps (λen w'=>∃c I' ρ',en = .returned c∧Ret E I K ρ H.length w I' ρ' H' w'∧VRel I' w' ρ' v c) a.defers .returning w1:=by
  intro hk;split at hk
  case h_2=>cases hk
  rename_i vs iH;rw[←h4]at iH;obtain⟨rs,q1,q2,q3⟩:=aY.marks;rw[q1,show e.base=[]from rfl,e2h];refine a5s rs w1 q2 (λr hr=>(q3 r hr).2.2) ?_;obtain⟨s1,s2,s3,s4,s5⟩:=a5o rs w1;have ig:HRel E.G I1 K ρ1 (a03 H1) (a1y rs w1):=HRel.shut aY.rel (S:=(·∈rs)) (λc hc=>⟨(q3 c hc).1,_,(q3 c hc).2.2⟩) s1 s5;have hD:∀c,SameD w1 (a1y rs w1) c:=by
   intro c;by_cases hc:c∈rs
   ·exact .inr ⟨_,(q3 c hc).2.2⟩
   ·exact .inl (s5 c hc)
  have qV:∀s,VRel I1 (a1y rs w1) ρ1 (a2h F1 s) (a.tmps.getD s undef):=λs=>VRel.monoD (λc _=>hD c) _ (aY.frm.2 s);have mZ:Ext I K w (a1y rs w1):=by refine⟨by rw[s3];exact aY.ext.os,by rw[s2];exact aY.ext.tape,by rw[s4];exact aY.ext.output,by rw[s1];exact aY.ext.size,λc hc=>?_⟩;have aq:c<w.heap.size:=hc.elim (rel.imm c) (rel.kept c);rw[s5 c (λhm=>by have h:w.heap.size≤c:=(q3 c hm).2.1;omega)];exact aY.ext.keep c hc
  obtain⟨c,hr,hv⟩:=b0t ok ig qV iH;obtain⟨I2,ρ2,f1,f2,f3,f4,f5,f6⟩:=d2o hk aY.low ig aY.nrel hv;exact⟨c,hr,c,I2,ρ2,rfl,⟨λc hc=>f1 c (aY.imm c hc),λb hb=>by rw[f2 b hb];exact aY.map b hb,mZ,f3,f4,f5⟩,f6⟩
 cases x with
 |normal=>exact fin hk
 |exit id=>cases hk
 |ret=>exact fin hk
end Go.Ax
/- AxLive: which slots are read from a loop's head on. Definitions only: nothing rests on them. -/
namespace Go.Ax
def d5q:List (Nat×List Nat)→Nat→List Nat
 | [],_=>[]
 |(i,l)::r,j=>bif Nat.beq i j then l else d5q r j
end Go.Ax
/- AxInst: the tables of the evaluator, read off a program. -/
namespace Go.Ax
/-! ### tables that are searched -/
inductive Tab(α:Type) where
 |nil
 |node (l:Tab α)(k:Nat)(v:α)(r:Tab α)
def Tab.get{α:Type}:Tab α→Nat→Option α
 |.nil,_=>none
 |.node l k v r,i=>bif Nat.blt i k then l.get i else bif Nat.beq i k then some v else r.get i
def Tab.all{α:Type}(p:Nat→α→Bool):Tab α→Bool
 |.nil=>true
 |.node l k v r=>p k v&&l.all p&&r.all p
theorem Tab.all_get{α:Type}{p:Nat→α→Bool}:∀{t:Tab α} {i:Nat} {x:α},t.all p=true→t.get i=some x→p i x=true
 |.nil,i,x,_,h=>by simp[Tab.get]at h
 |.node l k v r,i,x,ha,h=>by
  simp only[Tab.all,b46]at ha;simp only[Tab.get,cond_eq_ite]at h;split at h
  ·exact Tab.all_get ha.1.2 h
  ·split at h
   ·rename_i hk;have:i=k:=by simpa using hk
    cases h;subst this;exact ha.1.1
   ·exact Tab.all_get ha.2 h
def Tab.toList{α:Type}:Tab α→List α
 |.nil=>[]
 |.node l _ v r=>l.toList++v::r.toList
def Tab.from{α:Type}:Nat→Tab α→Option Nat
 |lo,.nil=>some lo
 |lo,.node l k _ r=>match l.from lo with
  |some n=>bif Nat.beq n k then r.from (k+1)else none
  |none=>none
theorem Tab.from_len{α:Type}:∀{t:Tab α} {lo n:Nat},t.from lo=some n→n=lo+t.toList.length
 |.nil,lo,n,h=>by simp only[Tab.from,Option.some.injEq]at h;simp[Tab.toList,h]
 |.node l k v r,lo,n,h=>by
  unfold Tab.from at h;split at h
  case h_2=>cases h
  rename_i m hm;rw[cond_eq_ite]at h;split at h
  case isFalse=>cases h
  rename_i hk;have hk:m=k:=by simpa using hk
  have h1:=Tab.from_len hm;have h2:=Tab.from_len h;simp[Tab.toList];omega
theorem Tab.get_from{α:Type}:∀{t:Tab α} {lo n i:Nat} {x:α},t.from lo=some n→t.get i=some x→lo≤i∧t.toList[i-lo]?=some x
 |.nil,lo,n,i,x,_,h=>by simp[Tab.get]at h
 |.node l k v r,lo,n,i,x,hf,h=>by
  unfold Tab.from at hf;split at hf
  case h_2=>cases hf
  rename_i m hm;rw[cond_eq_ite]at hf;split at hf
  case isFalse=>cases hf
  rename_i hk;have hk:m=k:=by simpa using hk
  subst hk;have hl:=Tab.from_len hm;simp only[Tab.get,cond_eq_ite]at h;split at h
  ·rename_i aq;obtain⟨h1,h2⟩:=Tab.get_from hm h;have aq:i<m:=by simpa[e3f]using aq
   refine⟨h1,?_⟩;simp only[Tab.toList];rw[e3q (by omega)];exact h2
  ·split at h
   ·rename_i hk;have:i=m:=by simpa using hk
    cases h;subst this;refine⟨by omega,?_⟩;simp only[Tab.toList];rw[e3l (by omega),show i-lo-l.toList.length=0 by omega];rfl
   ·obtain⟨h1,h2⟩:=Tab.get_from hf h;refine⟨by omega,?_⟩;simp only[Tab.toList];rw[e3l (by omega),show i-lo-l.toList.length=(i-(m+1))+1 by omega,e51];exact h2
/-! ### the tables of a program -/
def c9m(T:Tab TypeInfo)(t:TypeId):Option TypeDesc:=
 match T.get t with
 |some i=>match i.desc with
  |.named _ u=>match T.get u with
   |some j=>some j.desc
   |none=>none
  |d=>some d
 |none=>none
def d0r(T:Tab TypeInfo)(t:TypeId):Option (List AV):=
 match T.get t with
 |some i=>match i.zero with
  |some z=>bif (c9m T t).isSome&&Nat.beq z.cells.toList.length i.size then some (z.cells.toList.map a3a)else none
  |none=>none
 |none=>none
def d7d(P:Program)(T:Tab TypeInfo)(t:TypeId):Bool:=
 !(P.eqGuardType P.depth t) && !(P.stoodInHeld t)&&(match T.get t with|some i=>i.comparable|none=>false) &&
  (match c9m T t with|some (.struct fs)=>fs.toList.all (λf=>!(f.name == "_"))|_=>true)
def c9v(T:Tab TypeInfo)(t:Nat)(i:TypeInfo):Bool:=
 match c9m T t,i.zero with
 |some d,some (.agg _)=>a2l d
 |some d,some _=>!(a2l d)
 |_,_=>true
structure Laid where
 P:Program
 T:Tab TypeInfo
 F:Tab Func
 keep:Tab (List (Nat×List Nat))
 eqs:Tab Bool
 G:Nat→Option (List AV)
 thaw:Nat→Bool
 ro:Nat→Bool
 ext:Nat→Bool
 lend:Nat→Bool:=λ_=>false
 prim:Nat→List AV→Option (AV×a08):=λ_ _=>none
 zf:Nat→Bool:=λ_=>false
 zn:Nat→Nat:=λ_=>0
 zj:Nat→Nat:=λ_=>0
 raw:Nat→Bool:=λ_=>false
 bT:Nat:=999999999
 primH:Nat→List AV→a08→Option (AV×a08):=λ_ _ _=>none
def Laid.rnd(L:Laid)(y:Nat):Option RInfo:=match L.F.get (y/100000)with
 |some fn=>match fn.body with
  |some c=>b3c (y%100000) (rfs fn.ntmps (y/100000) 0 c)
  |none=>none
 |none=>none
def c1d(keep:Nat→List Nat)(f:Nat)(l:List (Nat×RInfo)):Bool:=a25 (l.map (·.1))&&l.all λx=>Nat.blt x.1 100000&&(match yOf (keep x.1)with|some y=>Nat.beq y (f*100000+x.1)|none=>false)&&a83 x.2.asg&&a83 x.2.body&&b4n x.2.asg&&b4n x.2.body
def Laid.env(L:Laid):Env:={
 P:=L.P
 und:=c9m L.T
 sz:=λt=>match L.T.get t with|some i=>i.size|none=>0
 bytes:=λt=>match L.T.get t with|some i=>i.bytes|none=>0
 zero:=d0r L.T
 eqok:=λt=>match L.eqs.get t with|some b=>b|none=>false
 G:=⟨L.G,L.rnd⟩
 bT:=L.bT
 primH:=L.primH
 fn:=λf=>match L.F.get f with
  |some fn=>match fn.body with
   |some c=>some ⟨c,fn.ntmps,fn.results.toList⟩
   |none=>none
  |none=>none
 keep:=λf=>match L.keep.get f with|some l=>d5q l|none=>λ_=>[]
 thaw:=L.thaw
 ro:=L.ro
 ext:=λf=>L.ext f||(L.lend f&&(match L.F.get f with|some fn=>fn.body.isSome|none=>false))
 prim:=L.prim
 zf:=L.zf
 zn:=L.zn
 zj:=L.zj
 raw:=L.raw }
structure LaidOk(L:Laid):Prop where
 types:∀i x,L.T.get i=some x→L.P.types[i]?=some x
 funcs:∀i x,L.F.get i=some x→L.P.funcs[i]?=some x
 shape:L.T.all (c9v L.T)=true
 names:L.F.all (λ_ fn=>!(fn.name == "runtime.NumGoroutine"))=true
 eqs:L.eqs.all (λt b=>!b||d7d L.P L.T t)=true
 ext:∀f,L.ext f=true→∃fn,L.P.funcs[f]?=some fn∧fn.body=none∧(fn.name == "runtime.NumGoroutine")=false∧Extern.findNext fn=none∧Extern.find fn=some Extern.BytealgIndexByte.indexByte
 mixed:L.P.follows .mixedOrders=true
 draws:L.F.all (λ_ fn=>match fn.body with|some c=>a83 c|none=>true)=true
 yid:(L.F.get yId).isNone=true
 rf:L.F.all (λf fn=>match fn.body with|some c=>c1d (L.env.keep f) f (rfs fn.ntmps f 0 c)|none=>true)=true
theorem b5u{α:Type}{t:Tab α}{l:List α}{n:Nat}(h1:t.from 0=some n)(h2:t.toList=l):∀i x,t.get i=some x→l.toArray[i]?=some x:=by intro i x h;obtain⟨_,h3⟩:=Tab.get_from h1 h;rw[h2]at h3;simpa using h3
section
variable {L:Laid}(ok:LaidOk L)
include ok
theorem b13{t:Nat}{i:TypeInfo}(h:L.T.get t=some i):L.P.info? t=some i:=by have h1:=ok.types t i h;have h2:=(e54.1 h1).1;show(if t<L.P.types.size then L.P.types[t]? else _)=_;rw[e3g h2];exact h1
theorem c9l{t:Nat}{d:TypeDesc}(h:c9m L.T t=some d):L.P.underlying t=some d∧∃i,L.T.get t=some i:=by
 unfold c9m at h;split at h
 case h_2=>cases h
 rename_i i hi;refine⟨?_,i,hi⟩;have h1:=b13 ok hi;unfold Program.underlying;rw[h1];split at h
 ·rename_i nm u hd;split at h
  case h_2=>cases h
  rename_i j hj;cases h;have h2:=b13 ok hj;cases i;simp only at hd;subst hd;simp[h2]
 ·rename_i d' aK;cases h;cases i;rename_i dd _ _ _ _ _ _ _ _ _;cases dd<;>first|rfl|exact absurd rfl (aK _ _)
theorem LaidOk.envOk:EnvOk L.env:={
 und t d h:=by obtain⟨h1,i,hi⟩:=c9l ok h;exact⟨h1,i,b13 ok hi,by simp[Laid.env,hi],by simp[Laid.env,hi]⟩
 zero t cs h:=by
  have h:d0r L.T t=some cs:=h;unfold d0r at h;split at h
  case h_2=>cases h
  rename_i i hi;split at h
  case h_2=>cases h
  rename_i z hz;rw[cond_eq_ite]at h;split at h
  case isFalse=>cases h
  rename_i hc;simp only[b46,e5a]at hc;cases h;refine⟨e24.1 hc.1,i,z,b13 ok hi,hz,by simp[Laid.env,hi,hc.2],λI w=>a71 _⟩
 zshape t d i z hd hi hz:=by
  obtain⟨_,j,hj⟩:=c9l ok hd;have lV:=b13 ok hj;have:i=j:=z9o (hi.symm.trans lV);subst this;have hs:=Tab.all_get ok.shape hj;have hd:c9m L.T t=some d:=hd;simp only[c9v,hd,hz]at hs;cases z with
  |agg a=>simp only at hs;exact⟨λ_=>⟨a,rfl⟩,λh=>by rw[hs]at h;cases h⟩
  |_=>simp only[e5i]at hs;exact⟨λh=>(by rw[hs]at h;cases h),λ_=>rfl⟩
 eqok t h:=by
  have h:(match L.eqs.get t with|some b=>b|none=>false)=true:=h;split at h
  case h_2=>cases h
  rename_i b hb;subst h;have h:=Tab.all_get ok.eqs hb;simp only[e6i,Bool.false_or,d7d,b46,e5i]at h;obtain⟨⟨⟨h1,h2⟩,h3⟩,h4⟩:=h;refine⟨h1,h2,?_,?_⟩
  ·split at h3
   ·rename_i i hi;exact⟨i,b13 ok hi,h3⟩
   ·cases h3
  ·intro fs gJ f hf;have gJ:c9m L.T t=some (.struct fs):=gJ;rw[gJ]at h4;simp only[e3n,e5i,e3o]at h4;exact h4 f hf
 fn f i h:=by
  have h:(match L.F.get f with
   |some fn=>match fn.body with
    |some c=>some (⟨c,fn.ntmps,fn.results.toList⟩:FInfo)
    |none=>none
   |none=>none)=some i:=h
  split at h
  case h_2=>cases h
  rename_i fn cI;split at h
  case h_2=>cases h
  rename_i c hc;cases h;have hn:=Tab.all_get ok.names cI;exact⟨fn,ok.funcs f fn cI,hc,rfl,rfl,by simpa using hn⟩
 ext f h cI:=by
  have h:(L.ext f||(L.lend f&&(match L.F.get f with|some fn=>fn.body.isSome|none=>false)))=true:=h;have cI:(match L.F.get f with
   |some fn=>match fn.body with
    |some c=>some (⟨c,fn.ntmps,fn.results.toList⟩:FInfo)
    |none=>none
   |none=>none).isSome=false:=cI
  rcases Bool.or_eq_true_iff.1 h with h|h
  ·exact ok.ext f h
  ·exfalso;have h:=(Bool.and_eq_true_iff.1 h).2;cases hx:L.F.get f with
   |none=>rw[hx]at h;cases h
   |some fn=>
    rw[hx]at h cI;cases hb:fn.body with
    |none=>simp[hb]at h
    |some c=>simp[hb]at cI
 mixed:=ok.mixed
 yid:=by
  have h:=ok.yid;show(match L.F.get yId with
   |some fn=>match fn.body with
    |some c=>some (⟨c,fn.ntmps,fn.results.toList⟩:FInfo)
    |none=>none
   |none=>none)=none
  cases hx:L.F.get yId with
  |none=>rfl
  |some fn=>rw[hx]at h;cases h}
omit ok in
theorem Laid.fn_inv{f:Nat}{i:FInfo}(h:L.env.fn f=some i):∃fn c,L.F.get f=some fn∧fn.body=some c∧i=⟨c,fn.ntmps,fn.results.toList⟩:=by
 have h:(match L.F.get f with
  |some fn=>match fn.body with
   |some c=>some (⟨c,fn.ntmps,fn.results.toList⟩:FInfo)
   |none=>none
  |none=>none)=some i:=h
 split at h
 case h_2=>cases h
 rename_i fn cI;split at h
 case h_2=>cases h
 rename_i c hc;cases h;exact⟨fn,c,cI,hc,rfl⟩
omit ok in
theorem b5o{cur:Nat}{ri:RInfo}:∀{l:List (Nat×RInfo)},b3c cur l=some ri→(cur,ri)∈l
 | [],h=>by simp[b3c]at h
 |(c,r)::l,h=>by
  simp only[b3c,cond_eq_ite]at h;split at h
  ·rename_i hc;have hc:=e6l hc;cases h;subst hc;simp
  ·exact List.mem_cons_of_mem _ (b5o h)
omit ok in
theorem b8l{x:Nat×RInfo}:∀{l:List (Nat×RInfo)},(l.map (·.1)).Nodup→x∈l→b3c x.1 l=some x.2
 | [],_,h=>by cases h
 |(c,r)::l,hn,h=>by
  simp only[e2b]at hn;have hn:=e66.1 hn;simp only[b3c,cond_eq_ite];rcases e3b.1 h with rfl|h
  ·simp
  ·have aK:c≠x.1:=λe=>hn.1 (by rw[e];exact e5r h);rw[e2i (by rw[e5a];exact aK)];exact b8l hn.2 h
theorem LaidOk.good{f:Nat}{fn:Func}{c:Code}(cI:L.F.get f=some fn)(hc:fn.body=some c):c1d (L.env.keep f) f (rfs fn.ntmps f 0 c)=true:=by have:=Tab.all_get ok.rf cI;simpa[hc]using this
def d0q(L:Laid):Prop:=∀f args H v H1,primH L.env f args H=some (v,H1)→a4h L.env f (primH L.env f)
theorem LaidOk.drawnP(hP:d0q L):DrOk L.env:={
 prim:=hP
 draws f i h:=by obtain⟨fn,c,cI,hc,rfl⟩:=Laid.fn_inv h;have:=Tab.all_get ok.draws cI;simpa[hc]using this
 rf f i h x hx:=by
  obtain⟨fn,c,cI,hc,rfl⟩:=Laid.fn_inv h;have hg:=ok.good cI hc;simp only[c1d,b46,e3n]at hg;have iG:=hg.2 x hx;obtain⟨⟨⟨⟨⟨h1,h2⟩,_⟩,_⟩,_⟩,_⟩:=iG;split at h2
  case h_2=>cases h2
  rename_i y hy;have h2:=e6l h2;have h1:x.1<100000:=by simpa[e3f]using h1
  refine⟨y,hy,?_⟩;show L.rnd y=some x.2;have e1:y/100000=f:=by omega
  have e2:y%100000=x.1:=by omega
  unfold Laid.rnd;rw[e1,e2,cI];simp only[hc];exact b8l (a54 hg.1) hx
 rnd y ri h:=by
  have h:L.rnd y=some ri:=h;unfold Laid.rnd at h;split at h
  case h_2=>cases h
  rename_i fn cI;split at h
  case h_2=>cases h
  rename_i c hc;have hg:=ok.good cI hc;simp only[c1d,b46,e3n]at hg;have iG:=hg.2 _ (b5o h);exact⟨iG.1.1.1.2,iG.1.1.2,iG.1.2,iG.2⟩}
end
end Go.Ax
/- AxZ0: a function whose own memory is frozen behind each of its outermost statements: the run of its body. -/
namespace Go.Ax
def d3f(E:Env)(m0 N:Nat)(keep:Nat→List Nat)(call:FuncId→List AV→a08→Option (AV×a08))(lf:Nat){R:Type}:Nat→Code→Frm→a08→(AExit→Frm→a08→Option R)→Option R
 |cur,.seq a b,F,H,k=>d3f E m0 N keep call lf cur a F H λe F' H'=>match e with
  |.normal=>d3f E m0 N keep call lf cur b (c5t m0 H' F') (c3n m0 H') k
  |e=>k e F' H'
 |cur,c,F,H,k=>a3r E m0 N keep call lf cur c F H k
theorem c8o{E:Env}(ok:EnvOk E){call:FuncId→List AV→a08→Option (AV×a08)}(am:a3d E call){fid:Nat}{e:Entry}{N lf:Nat}{keep:Nat→List Nat}{R:Type}:∀(c:Code),a83 c=true→
 ∀{cur:Nat},RFOk E fid N keep none cur c→∀{k:AExit→Frm→a08→Option R} {r:R} {Q:Exit→Act→World→Prop},(∀x F H I ρ a w,Now E e N F H I ρ a w→k x F H=some r→Q x.conv a w)→
 ∀{F:Frm} {H:a08} {I:Nat→Prop} {ρ:PMap} {a:Act} {w:World},Now E e N F H I ρ a w→d3f E e.m N keep call lf cur c F H k=some r→c.wpIn (wf none) 0 E.P Q a w:=by
 intro c
 induction c with
 |seq x y ihx ihy=>
  intro aR cur bv k r Q hQ F H I ρ a w ae ac;have aR:a1p false (.seq x y)=true:=aR;simp only[a1p,b46]at aR;refine wpIn_seq (ihx aR.1 bv.seq1 ?_ ae ac);intro x F H I ρ a w hn hk;cases x with
  |normal=>obtain⟨I',ρ',h'⟩:=hn.frz 0;exact ihy aR.2 bv.seq2 hQ h' hk
  |exit id=>exact hQ (.exit id) F H I ρ a w hn hk
  |ret=>exact hQ .ret F H I ρ a w hn hk
 |_=>intro aR cur bv k r Q hQ F H I ρ a w ae ac;exact a5j (ro:=none) ok am _ aR bv hQ ae ac
def d86(E:Env)(m0 N:Nat)(keep:Nat→List Nat)(call:FuncId→List AV→a08→Option (AV×a08))(lf j:Nat){R:Type}:Nat→Nat→Code→Frm→a08→(AExit→Frm→a08→Option R)→Option R
 |0,cur,c,F,H,k=>a3r E m0 N keep call lf cur c F H k
 |n+1,cur,c,F,H,k=>match c with
  |.seq a b=>a3r E m0 N keep call lf cur a F H λe F' H'=>match e with
   |.normal=>d86 E m0 N keep call lf j n cur b (c5t (m0+j) H' F') (c3n (m0+j) H') k
   |e=>k e F' H'
  |c=>a3r E m0 N keep call lf cur c F H k
theorem c8p{E:Env}(ok:EnvOk E){call:FuncId→List AV→a08→Option (AV×a08)}(am:a3d E call){fid:Nat}{e:Entry}{N lf j:Nat}{keep:Nat→List Nat}{R:Type}:∀(n:Nat) (c:Code),a1p false c=true→
 ∀{cur:Nat},RFOk E fid N keep none cur c→∀{k:AExit→Frm→a08→Option R} {r:R} {Q:Exit→Act→World→Prop},(∀x F H I ρ a w,Now E e N F H I ρ a w→k x F H=some r→Q x.conv a w)→
 ∀{F:Frm} {H:a08} {I:Nat→Prop} {ρ:PMap} {a:Act} {w:World},Now E e N F H I ρ a w→d86 E e.m N keep call lf j n cur c F H k=some r→c.wpIn (wf none) 0 E.P Q a w:=by
 intro n
 induction n with
 |zero=>intro c aR cur bv k r Q hQ F H I ρ a w ae ac;exact a5j (ro:=none) ok am c aR bv hQ ae ac
 |succ n ih=>
  intro c;cases c with
  |seq x y=>
   intro aR cur bv k r Q hQ F H I ρ a w ae ac;have aR:a1p false (.seq x y)=true:=aR;simp only[a1p,b46]at aR;refine wpIn_seq (a5j (ro:=none) ok am x aR.1 bv.seq1 ?_ ae ac);intro x F H I ρ a w hn hk;cases x with
   |normal=>obtain⟨I',ρ',h'⟩:=hn.frz j;exact ih _ aR.2 bv.seq2 hQ h' hk
   |exit id=>exact hQ (.exit id) F H I ρ a w hn hk
   |ret=>exact hQ .ret F H I ρ a w hn hk
  |_=>intro aR cur bv k r Q hQ F H I ρ a w ae ac;exact a5j (ro:=none) (lf:=lf) ok am _ aR bv hQ ae ac
def e01(E:Env)(z:Bool)(zn zj:Nat)(m0 N:Nat)(keep:Nat→List Nat)(call:FuncId→List AV→a08→Option (AV×a08))(lf:Nat){R:Type}(cur:Nat)(c:Code)(F:Frm)(H:a08)(k:AExit→Frm→a08→Option R):Option R:=bif z then(match zn with|0=>d3f E m0 N keep call lf cur c F H k|n+1=>d86 E m0 N keep call lf zj n cur c F H k)else a3r E m0 N keep call lf cur c F H k
end Go.Ax
/- AxMemo: calls whose answer is known already. -/
namespace Go.Ax
def d4j:List UInt8→List UInt8→Bool
 | [],[]=>true
 |a::r,b::s=>Nat.beq a.toNat b.toNat&&d4j r s
 |_,_=>false
theorem c5z:∀{a b:List UInt8},d4j a b=true→a=b
 | [],[],_=>rfl
 | [],_::_,h=>by simp[d4j]at h
 |_::_,[],h=>by simp[d4j]at h
 |a::r,b::s,h=>by simp only[d4j,b46,e5a]at h;rw[c5z h.2,UInt8.toNat_inj.1 h.1]
def eqO:Option Nat→Option Nat→Bool
 |none,none=>true
 |some a,some b=>Nat.beq a b
 |_,_=>false
theorem d7f{a b:Option Nat}(h:eqO a b=true):a=b:=by cases a<;>cases b<;>simp_all[eqO]
def eqI:Int→Int→Bool
 |.ofNat a,.ofNat b=>Nat.beq a b
 |.negSucc a,.negSucc b=>Nat.beq a b
 |_,_=>false
theorem d7g{a b:Int}(h:eqI a b=true):a=b:=by cases a<;>cases b<;>simp_all[eqI]
mutual
def eqV:AV→AV→Bool
 |.bool a,.bool b=>match a,b with|true,true=>true|false,false=>true|_,_=>false
 |.int k n,.int k' n'=>decide (k=k')&&eqI n n'
 |.str s,.str t=>d4j s t
 |.nilptr,.nilptr=>true
 |.nilslice,.nilslice=>true
 |.nilmap,.nilmap=>true
 |.nilfunc,.nilfunc=>true
 |.nilifc,.nilifc=>true
 |.iptr cs,.iptr ds=>eqL cs ds
 |.islice r c,.islice r' c'=>eqO c c'&&eqR r r'
 |.agg cs,.agg ds=>eqL cs ds
 |.tuple cs,.tuple ds=>eqL cs ds
 |.iset a,.iset b=>decide (a=b)
 |_,_=>false
def eqL:List AV→List AV→Bool
 | [],[]=>true
 |a::r,b::s=>eqV a b&&eqL r s
 |_,_=>false
def eqR:List (List AV)→List (List AV)→Bool
 | [],[]=>true
 |a::r,b::s=>eqL a b&&eqR r s
 |_,_=>false
end
mutual
theorem d7e:∀(a b:AV),eqV a b=true→a=b
 |.bool a,b,h=>by cases b<;>simp only[eqV]at h<;>first|(cases h;done)|(split at h<;>first|rfl|cases h)
 |.int k n,b,h=>by
  cases b<;>simp only[eqV]at h<;>first|(cases h;done)|skip
  simp only[b46,e2d]at h;rw[h.1,d7g h.2]
 |.str s,b,h=>by cases b<;>simp only[eqV]at h<;>first|(cases h;done)|rw[c5z h]
 |.nilptr,b,h=>by cases b<;>simp only[eqV]at h<;>first|rfl|(cases h;done)
 |.nilslice,b,h=>by cases b<;>simp only[eqV]at h<;>first|rfl|(cases h;done)
 |.nilmap,b,h=>by cases b<;>simp only[eqV]at h<;>first|rfl|(cases h;done)
 |.nilfunc,b,h=>by cases b<;>simp only[eqV]at h<;>first|rfl|(cases h;done)
 |.nilifc,b,h=>by cases b<;>simp only[eqV]at h<;>first|rfl|(cases h;done)
 |.iptr cs,b,h=>by cases b<;>simp only[eqV]at h<;>first|(cases h;done)|rw[b3v _ _ h]
 |.islice r c,b,h=>by
  cases b<;>simp only[eqV]at h<;>first|(cases h;done)|skip
  simp only[b46]at h;rw[d7f h.1,c5y _ _ h.2]
 |.agg cs,b,h=>by cases b<;>simp only[eqV]at h<;>first|(cases h;done)|rw[b3v _ _ h]
 |.tuple cs,b,h=>by cases b<;>simp only[eqV]at h<;>first|(cases h;done)|rw[b3v _ _ h]
 |.junk,b,h=>by simp[eqV]at h
 |.ptr ..,b,h=>by simp[eqV]at h
 |.slice ..,b,h=>by simp[eqV]at h
 |.map ..,b,h=>by simp[eqV]at h
 |.yfn ..,b,h=>by simp[eqV]at h
 |.imap ..,b,h=>by simp[eqV]at h
 |.iset a,b,h=>by cases b<;>simp only[eqV]at h<;>first|(cases h;done)|rw[of_decide_eq_true h]
 |.func ..,b,h=>by simp[eqV]at h
 |.iface ..,b,h=>by simp[eqV]at h
theorem b3v:∀(a b:List AV),eqL a b=true→a=b
 | [],b,h=>by cases b<;>simp[eqL]at h<;>rfl
 |x::r,b,h=>by
  cases b<;>simp only[eqL]at h
  ·cases h
  ·simp only[b46]at h;rw[d7e _ _ h.1,b3v _ _ h.2]
theorem c5y:∀(a b:List (List AV)),eqR a b=true→a=b
 | [],b,h=>by cases b<;>simp[eqR]at h<;>rfl
 |x::r,b,h=>by
  cases b<;>simp only[eqR]at h
  ·cases h
  ·simp only[b46]at h;rw[b3v _ _ h.1,c5y _ _ h.2]
end
structure Fact where
 g:Nat
 args:List AV
 v:AV
def b0f(E:Env)(x:Fact):Prop:=
 ∀(I K:Nat→Prop) (ρ:PMap) (w:World) (ah:List Value),HRel E.G I K ρ (a03 []) w→NRel ρ 0→VRels I w ρ x.args ah→
  XOf E x.g ah w λen w'=>∃c I' ρ',en = .returned c∧Ret E I K ρ 0 w I' ρ' [] w'∧VRel I' w' ρ' x.v c
def d3z:List Fact→FuncId→List AV→Option AV
 | [],_,_=>none
 |x::r,g,args=>bif Nat.beq x.g g&&eqL x.args args then some x.v else d3z r g args
def e19(M:List Fact)(call:FuncId→List AV→a08→Option (AV×a08))(g:FuncId)(args:List AV)(H:a08):Option (AV×a08):=
 match H with
 | []=>match d3z M g args with
  |some v=>some (v,[])
  |none=>call g args []
 |b::r=>call g args (b::r)
def a6c(E:Env)(call:FuncId→List AV→a08→Option (AV×a08))(lf:Nat)(f:FuncId)(args:List AV)(H:a08):Option (AV×a08):=
 match primH E f args H with
 |some r=>some r
 |none=>match E.fn f with
 |none=>bif Nat.beq f yId then a8e E call lf args H else none
 |some i=>bif Nat.ble args.length i.ntmps then
  e01 E (E.zf f) (E.zn f) (E.zj f) H.length i.ntmps (E.keep f) call lf 0 i.code (a3k 0 args) H λe F' H'=>match e with
   |.exit _=>none
   |_=>match a1l E F' H' i.results with
    |some vs=>d0e E f H.length (a7t vs) H'
    |none=>none
  else none
def c52(E:Env)(M:List Fact):Nat→FuncId→List AV→a08→Option (AV×a08)
 |0,_,_,_=>none
 |n+1,f,args,H=>e19 M (a6c E (c52 E M n) (n+1)) f args H
theorem c7u{E:Env}(ok:EnvOk E)(al:DrOk E){call:FuncId→List AV→a08→Option (AV×a08)}(am:a3d E call)(lf:Nat):a3d E (a6c E call lf):=by
 intro g args H v H' ac I K ρ w ah rel hn ha;unfold a6c at ac;split at ac
 ·rename_i r hp;cases ac;exact al.prim g args H v H' hp args H v H' hp I K ρ w ah rel hn ha
 split at ac
 ·rw[cond_eq_ite]at ac;split at ac
  case isFalse=>cases ac
  rename_i hg;have hg:=e6l hg;subst hg;exact c0a ok al.rnd am lf args H v H' ac I K ρ w ah rel hn ha
 rename_i i hi;rw[cond_eq_ite]at ac;split at ac
 case isFalse=>cases ac
 rename_i aN;refine d74 ok hi aN (k:=λe F' H'=>match e with
  |.exit _=>none
  |_=>match a1l E F' H' i.results with
   |some vs=>d0e E g H.length (a7t vs) H'
   |none=>none) (λx F1 H1 r h=>by cases x<;>exact h) ?_ rel hn ha
 intro e Q he hQ I ρ a w ae;unfold e01 at ac;cases hz:E.zf g with
 |true=>
  rw[hz,e3e]at ac;cases hzn:E.zn g with
  |zero=>rw[hzn]at ac;refine c8o (e:=e) (lf:=lf) ok am i.code (al.draws g i hi) (al.code hi) hQ ae ?_;rw[he];exact ac
  |succ n=>rw[hzn]at ac;refine c8p (e:=e) (lf:=lf) (j:=E.zj g) ok am n i.code (al.draws g i hi) (al.code hi) hQ ae ?_;rw[he];exact ac
 |false=>rw[hz,e3p]at ac;refine a5j (e:=e) (ro:=none) (lf:=lf) ok am i.code (al.draws g i hi) (al.code hi) hQ ae ?_;rw[he];exact ac
end Go.Ax
