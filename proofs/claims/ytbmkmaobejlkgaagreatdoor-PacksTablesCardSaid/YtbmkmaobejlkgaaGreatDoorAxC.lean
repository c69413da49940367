/- AxSame: values and objects, compared. -/
import Derived.Test.YtbmkmaobejlkgaaGreatDoorAxA
import Derived.Lib.Bytealg
import Derived.RangeFuncRecord
import Derived.Scope
import Derived.LoopNIn
import Derived.Orders
import Derived.OrdersIn
set_option linter.unusedSimpArgs false
set_option linter.unusedVariables false
namespace Go.Ax
mutual
def a8y:AV→AV→Bool
 |.junk,.junk=>true
 |.bool a,.bool b=>a==b
 |.int k a,.int k' b=>decide (k=k')&&decide (a=b)
 |.str a,.str b=>decide (a=b)
 |.nilptr,.nilptr=>true
 |.nilslice,.nilslice=>true
 |.nilmap,.nilmap=>true
 |.nilfunc,.nilfunc=>true
 |.nilifc,.nilifc=>true
 |.ptr a b c,.ptr d e f=>decide (a=d)&&(decide (b=e)&&decide (c=f))
 |.iptr a,.iptr b=>a7v a b
 |.slice a b c d,.slice e f g h=>decide (a=e)&&(decide (b=f)&&(decide (c=g)&&decide (d=h)))
 |.islice r c,.islice s d=>b7l r s&&decide (c=d)
 |.map a,.map b=>decide (a=b)
 |.imap a b c d,.imap e f g h=>a7v a e&&(a7v b f&&(decide (c=g)&&decide (d=h)))
 |.iset a,.iset b=>decide (a=b)
 |.yfn a,.yfn b=>decide (a=b)
 |.func f a b,.func g c d=>decide (f=g)&&(a7v a c&&a7v b d)
 |.iface t x,.iface u y=>decide (t=u)&&a8y x y
 |.agg a,.agg b=>a7v a b
 |.tuple a,.tuple b=>a7v a b
 |_,_=>false
def a7v:List AV→List AV→Bool
 | [],[]=>true
 |x::xs,y::ys=>a8y x y&&a7v xs ys
 |_,_=>false
def b7l:List (List AV)→List (List AV)→Bool
 | [],[]=>true
 |x::xs,y::ys=>a7v x y&&b7l xs ys
 |_,_=>false
end
mutual
theorem b7j:∀(a b:AV),a8y a b=true→a=b
 |a,b,h=>by
  cases a<;>cases b<;>simp only[a8y,e9l,f0l,f6k,f3l]at h
  case junk.junk=>rfl
  case bool.bool=>rw[h]
  case int.int=>rw[h.1,h.2]
  case str.str=>rw[h]
  case nilptr.nilptr=>rfl
  case nilslice.nilslice=>rfl
  case nilmap.nilmap=>rfl
  case nilfunc.nilfunc=>rfl
  case nilifc.nilifc=>rfl
  case ptr.ptr=>rw[h.1,h.2.1,h.2.2]
  case iptr.iptr=>rw[a4b _ _ h]
  case slice.slice=>rw[h.1,h.2.1,h.2.2.1,h.2.2.2]
  case islice.islice=>rw[b7k _ _ h.1,h.2]
  case map.map=>rw[h]
  case imap.imap=>rw[a4b _ _ h.1,a4b _ _ h.2.1,h.2.2.1,h.2.2.2]
  case iset.iset=>rw[h]
  case yfn.yfn=>rw[h]
  case func.func=>rw[h.1,a4b _ _ h.2.1,a4b _ _ h.2.2]
  case iface.iface=>rw[h.1,b7j _ _ h.2]
  case agg.agg=>rw[a4b _ _ h]
  case tuple.tuple=>rw[a4b _ _ h]
theorem a4b:∀(a b:List AV),a7v a b=true→a=b
 | [],[],_=>rfl
 |x::xs,y::ys,h=>by simp only[a7v,e9l]at h;rw[b7j x y h.1,a4b xs ys h.2]
 | [],_::_,h=>by simp[a7v]at h
 |_::_,[],h=>by simp[a7v]at h
theorem b7k:∀(a b:List (List AV)),b7l a b=true→a=b
 | [],[],_=>rfl
 |x::xs,y::ys,h=>by simp only[b7l,e9l]at h;rw[a4b x y h.1,b7k xs ys h.2]
 | [],_::_,h=>by simp[b7l]at h
 |_::_,[],h=>by simp[b7l]at h
end
mutual
theorem b0i:∀(a:AV),a8y a a=true
 |.junk|.bool _|.int _ _|.str _|.nilptr|.nilslice|.nilmap|.nilfunc|.nilifc|.ptr _ _ _|.slice _ _ _ _|.map _|.yfn _=>by simp[a8y]
 |.iptr a=>by simp only[a8y];exact a2z a
 |.islice r c=>by simp only[a8y,b0j r,f6y,f4t]
 |.imap a b c d=>by simp only[a8y,a2z a,a2z b,f6y,f4t]
 |.iset a=>by simp only[a8y,f6y]
 |.func f a b=>by simp only[a8y,a2z a,a2z b,f6y,f4t]
 |.iface t x=>by simp only[a8y,b0i x,f6y,f4t]
 |.agg a=>by simp only[a8y];exact a2z a
 |.tuple a=>by simp only[a8y];exact a2z a
theorem a2z:∀(a:List AV),a7v a a=true
 | []=>rfl
 |x::xs=>by simp only[a7v,b0i x,a2z xs,f4t]
theorem b0j:∀(a:List (List AV)),b7l a a=true
 | []=>rfl
 |x::xs=>by simp only[b7l,a2z x,b0j xs,f4t]
end
def b7n:List (Nat×AV)→List (Nat×AV)→Bool
 | [],[]=>true
 |(s,v)::F,(t,u)::G=>Nat.beq s t&&(a8y v u&&b7n F G)
 |_,_=>false
theorem b7m:∀{F G:List (Nat×AV)},b7n F G=true→F=G
 | [],[],_=>rfl
 |(s,v)::F,(t,u)::G,h=>by simp only[b7n,e9l,f7g]at h;rw[h.1,b7j _ _ h.2.1,b7m h.2.2]
 | [],_::_,h=>by simp[b7n]at h
 |_::_,[],h=>by simp[b7n]at h
theorem b5m:∀F:List (Nat×AV),b7n F F=true
 | []=>rfl
 |(s,v)::F=>by simp only[b7n,b0i,b5m F,Nat.beq_refl,f4t]
def b1x:Option AObj→Option AObj→Bool
 |none,none=>true
 |some (.row k r),some (.row l s)=>decide (k=l)&&b7l r s
 |some (.map a b c d),some (.map e f g h)=>a7v a e&&(a7v b f&&(decide (c=g)&&decide (d=h)))
 |some (.siter s p),some (.siter t q)=>decide (s=t)&&decide (p=q)
 |some (.uset a),some (.uset b)=>decide (a=b)
 |some (.miter a b c),some (.miter d e f)=>decide (a=d)&&(decide (b=e)&&decide (c=f))
 |some (.yloop a b c),some (.yloop d e f)=>decide (a=d)&&(b7n b e&&decide (c=f))
 |_,_=>false
theorem c3r(a b:Option AObj)(h:b1x a b=true):a=b:=by
 unfold b1x at h;split at h
 ·rfl
 ·simp only[e9l,f0l]at h;rw[h.1,b7k _ _ h.2]
 ·simp only[e9l,f0l]at h;rw[a4b _ _ h.1,a4b _ _ h.2.1,h.2.2.1,h.2.2.2]
 ·simp only[e9l,f0l]at h;rw[h.1,h.2]
 ·simp only[f0l]at h;rw[h]
 ·simp only[e9l,f0l]at h;rw[h.1,h.2.1,h.2.2]
 ·simp only[e9l,f0l]at h;rw[h.1,b7m h.2.1,h.2.2]
 ·cases h
@[go_sem] theorem e2m(a:Option AObj):b1x a a=true:=by
 cases a with
 |none=>rfl
 |some o=>cases o with
  |row k r=>simp only[b1x,b0j,f6y,f4t]
  |map a b c d=>simp only[b1x,a2z,f6y,f4t]
  |siter s p=>simp only[b1x,f6y,f4t]
  |uset a=>simp only[b1x,f6y]
  |miter a b c=>simp only[b1x,f6y,f4t]
  |yloop a b c=>simp only[b1x,b5m,f6y,f4t]
end Go.Ax
/- AxRun: the evaluator: operations in a row, statements, calls. Definitions only. -/
namespace Go.Ax
def a01(H:a02):FHeap:=λb=>(H[b]?).join
def b16(H:a02):Eff→a02
 |.none=>H
 |.new o=>H++[some o]
 |.set b o=>H.set b (some o)
 |.kill b o=>H.set b none++[some o]
/-! ### what a value refers to -/
mutual
def refs:AV→List Nat
 |.ptr b _ _=>[b]
 |.slice b _ _ _=>[b]
 |.map b=>[b]
 |.yfn b=>[b]
 |.func _ fs cs=>a08 fs++a08 cs
 |.iface _ x=>refs x
 |.agg cs=>a08 cs
 |.tuple cs=>a08 cs
 |.junk|.bool _|.int ..|.str _|.nilptr|.nilslice|.nilmap|.nilfunc|.nilifc|.iptr _|.islice ..|.imap ..|.iset _=>[]
def a08:List AV→List Nat
 | []=>[]
 |v::vs=>refs v++a08 vs
end
def a9j:List (Nat×AV)→List Nat
 | []=>[]
 |(_,v)::r=>refs v++a9j r
theorem c90{F:List (Nat×AV)}{x:Nat×AV}(hx:x∈F){c:Nat}(hc:c∈refs x.2):c∈a9j F:=by
 induction F with
 |nil=>cases hx
 |cons y F ih=>
  simp only[a9j,f2w];rcases f2s.1 hx with rfl|hx
  ·exact .inl hc
  ·exact .inr (ih hx)
def a0o:Option AObj→List Nat
 |some (.yloop _ F _)=>a9j F
 |some (.row _ rows)=>rows.flatMap a08
 |some (.map ks vs _ _)=>a08 ks++a08 vs
 |_=>[]
def a1c:List Nat→Nat→Bool
 | [],_=>false
 |a::r,x=>bif Nat.beq a x then true else a1c r x
theorem a2s{l:List Nat}{x:Nat}:a1c l x=true↔x∈l:=by
 induction l with
 |nil=>simp[a1c]
 |cons a r ih=>
  simp only[a1c,d2w,cond_eq_ite,f2s];by_cases h:a=x
  ·simp[h]
  ·simp only[f3k.2 h,f3l,f7c,ih];exact⟨.inr,λh'=>h'.resolve_left (λe=>h e.symm)⟩
def a2p(H:a02):Nat→List Nat→List Nat→List Nat
 |0,_,aK=>aK.reverse
 |_+1,[],aK=>aK.reverse
 |n+1,b::todo,aK=>bif a1c aK b then a2p H n todo aK else a2p H n (a0o (a01 H b)++todo) (b::aK)
def a53:Nat:=1000000
/-! ### renaming a heap -/
def a4m(σ:List Nat):Nat→Option Nat:=λb=>σ.idxOf? b
def a1k(H:a02)(σ:List Nat)(π:Nat→Option Nat):a02:=σ.map λb=>(a01 H b).map (a0g π)
def a13(σ:List Nat)(n:Nat):Nat→Option Nat:=λj=>bif Nat.blt j σ.length then σ[j]? else some (n+(j-σ.length))
def a0w(σ:List Nat)(n:Nat)(H1:a02):Nat→a02→a02
 |_,[]=>[]
 |b,o::r=>(match σ.idxOf? b with
  |some j=>(a01 H1 j).map (a0g (a13 σ n))
  |none=>o)::a0w σ n H1 (b+1) r
def a54:List Nat→Bool
 | []=>true
 |b::r=>!(a1c r b)&&a54 r
def a1r(run:List AV→a02→Option (AV×a02))(args:List AV)(H:a02):Option (AV×a02×List Nat):=
 let σ:=a2p H a53 (a08 args) []
 bif a54 σ&&σ.all (λb=>Nat.blt b H.length)then
  match run (args.map (ren (a4m σ))) (a1k H σ (a4m σ))with
  |some (v,H1)=>some (ren (a13 σ H.length) v,a0w σ H.length H1 0 H++(H1.drop σ.length).map (Option.map (a0g (a13 σ H.length))),σ)
  |none=>none
 else none
/-! ### lent calls -/
mutual
def noI:AV→Bool
 |.iptr _=>false
 |.islice _ _=>false
 |.imap _ _ _ _=>false
 |.iset _=>false
 |.func _ fs cs=>c63 fs&&c63 cs
 |.iface _ x=>noI x
 |.agg cs=>c63 cs
 |.tuple cs=>c63 cs
 |.junk|.bool _|.int ..|.str _|.nilptr|.nilslice|.nilmap|.nilfunc|.nilifc|.ptr _ _ _|.slice _ _ _ _|.map _|.yfn _=>true
def c63:List AV→Bool
 | []=>true
 |v::vs=>noI v&&c63 vs
end
def e2x:AObj→Bool
 |.row _ rows=>rows.all c63
 |.map ks vs _ _=>c63 ks&&c63 vs
 |.siter _ _=>true
 |.uset _=>true
 |_=>false
def b02(H:a02):FHeap:=λb=>match a01 H b with
 |some o=>bif e2x o then some o else none
 |none=>none
def a93(run:List AV→a02→Option (AV×a02))(args:List AV)(H:a02):Option (AV×a02×List Nat):=
 match a5i 0 false (a58 (a01 H) 0 12) args with
 |some ap=>match run ap []with
  |some (v,H1)=>bif noI v then match a3i 0 false (a58 (b02 H1) 0 12) v with
   |some v'=>some (v',H,List.range H.length)
   |none=>none
   else none
  |none=>none
 |none=>none
def f1b(args:List AV):Option AV:=
 match args with
 | [.str s,.int .u8 c]=>some (.int .i64 (Lib.indexByte s c.toNat.toUInt8))
 |_=>none
def a09(E:Env)(ah:Bool)(call:FuncId→List AV→a02→Option (AV×a02))(f:AV)(args:List AV)(H:a02):Option (AV×a02×List Nat):=
 match f with
 |.func (.func g) fs cs=>bif E.ext g then(bif (E.fn g).isSome then a93 (call g) (fs++args++cs) H else match f1b (fs++args++cs)with
  |some v=>some (v,H,[])
  |none=>none)
  else bif (E.fn g).isSome then
   match a1r (call g) (fs++args++cs) H with
   |some (v,H',σ)=>bif ah && !(Nat.ble H.length H'.length)then none else some (v,H',σ)
   |none=>none
  else none
 |.yfn b=>match a1r (call yId) (.yfn b::args) H with
  |some (v,H',σ)=>bif ah && !(Nat.ble H.length H'.length)then none else some (v,H',σ)
  |none=>none
 |_=>none
/-! ### operations in a row -/
structure LogE where
 needs:List Nat
 keys:List Nat
def Eff.keys(n:Nat):Eff→List Nat
 |.none=>[]
 |.new _=>[n]
 |.set b _=>[b]
 |.kill b _=>[b,n]
def Eff.fits(n:Nat):Eff→Bool
 |.set b _=>Nat.blt b n
 |.kill b _=>Nat.blt b n
 |_=>true
def a0i:AV→List Nat
 |.ptr b _ _=>[b]
 |.slice b _ _ _=>[b]
 |.map b=>[b]
 |_=>[]
def a89(op:Op)(v:Operand→AV):List Nat:=
 match op with
 |.load _ a=>a0i (v a)
 |.store _ a _=>a0i (v a)
 |.convert _ _ x=>a0i (v x)
 |.slice _ x _ _ _=>a0i (v x)
 |.indexAddr _ x _=>a0i (v x)
 |.lookup _ m _ _=>a0i (v m)
 |.mapUpdate _ m _ _=>a0i (v m)
 |.insert _ m _ _=>a0i (v m)
 |.mapEntry _ m _=>a0i (v m)
 |.entryStore _ m _ _=>a0i (v m)
 |.next it _=>a0i (v it)
 |.entry it=>a0i (v it)
 |.call { callee:=.builtin _,args,.. }=>args.toList.flatMap λx=>a0i (v x)
 |_=>[]
def a6g(E:Env)(f:AV)(H H':a02)(σ:List Nat):Bool:=match f with
 |.func (.func g) _ _=>E.ro g&&σ.all λb=>b1x (a01 H b) (a01 H' b)
 |_=>false
def b53(ro:Bool)(σ:List Nat)(n n':Nat):List Nat:=bif Nat.beq n' n then(bif ro then[]else σ)else σ++List.range' n (n'-n)
def a0u(E:Env)(ah:Bool)(call:FuncId→List AV→a02→Option (AV×a02))(F:Frm)(H:a02)(op:Op):Option (AV×a02×LogE):=
 match op with
 |.call { callee:=.value f,args,.. }=>match a09 E ah call (opv E F f) (args.toList.map (opv E F)) H with
  |some (v,H',σ)=>some (v,H',⟨σ,b53 (a6g E (opv E F f) H H' σ) σ H.length H'.length⟩)
  |none=>none
 |op=>match aop E H.length (a01 H) op (opv E F)with
  |some (v,e)=>bif e.fits H.length then some (v,b16 H e,⟨a89 op (opv E F),e.keys H.length⟩)else none
  |none=>none
def a6t(N:Nat):Option Tmp→Bool
 |none=>true
 |some d=>Nat.blt d N
def b3d(a b:List Nat):Bool:=a.any λx=>a1c b x
def LogE.clash(x y:LogE):Bool:=b3d x.keys y.needs||b3d x.keys y.keys||b3d x.needs y.keys
def a9r(all:List Oper)(i:Nat):Nat→Nat→Bool
 |0,_=>false
 |n+1,j=>match all[j]? with
  |some o=>o.after.toList.any λe=>Region.binds .any e&&(e.on==i||a9r all i n e.on)
  |none=>false
def d88(all:List Oper)(i j:Nat):Bool:=
 match all[j]? with
 |some o=>o.after.toList.any λe=>Region.binds .any e&&e.on==i
 |none=>false
def a4c(all:List Oper)(i j:Nat):Bool:=d88 all i j||a9r all i all.length j
def logOk.logRow (all:List Oper) (j:Nat) (y:LogE):Nat→List LogE→Bool
 |_,[]=>true
 |0,_::_=>false
 |i+1,x::af=>(!(x.clash y)||a4c all i j)&&logOk.logRow all j y i af
def logOk(all:List Oper):Nat→List LogE→Bool
 |_,[]=>true
 |0,_::_=>false
 |j+1,y::af=>logOk.logRow all j y j af&&logOk all j af

def a2y(all:List Oper)(j:Nat):Option Nat:=(all[j]?).bind (·.dst)
def a2e(E:Env)(ah:Bool)(N:Nat)(call:FuncId→List AV→a02→Option (AV×a02))(all:List Oper){R:Type} :
 List Oper→List LogE→Frm→a02→(Frm→a02→Option R)→Option R
 | [],log,F,H,k=>bif !ah||logOk all log.length log then k F H else none
 |o::af,log,F,H,k=>
  bif a6t N o.dst then
   match o.guard with
   |none=>match a0u E ah call F H o.op with
    |some (v,H',l)=>a2e E ah N call all af (l::log) (a3l F o.dst v) H' k
    |none=>none
   |some (j,bj)=>match a2y all j with
    |none=>none
    |some d=>match a38 F d with
     |.bool b=>bif b then
      (bif bj then match a0u E ah call (a3l F (some d) (.bool true)) H o.op with
       |some (v,H',l)=>a2e E ah N call all af (l::log) (a3l (a3l F (some d) (.bool true)) o.dst v) H' k
       |none=>none
      else a2e E ah N call all af (⟨[],[]⟩::log) (a3l (a3l F (some d) (.bool true)) o.dst (.tuple [])) H k)
      else
       (bif bj then a2e E ah N call all af (⟨[],[]⟩::log) (a3l (a3l F (some d) (.bool false)) o.dst (.tuple [])) H k
       else match a0u E ah call (a3l F (some d) (.bool false)) H o.op with
        |some (v,H',l)=>a2e E ah N call all af (l::log) (a3l (a3l F (some d) (.bool false)) o.dst v) H' k
        |none=>none)
     |.tuple []=>a2e E ah N call all af (⟨[],[]⟩::log) (a3l F o.dst (.tuple [])) H k
     |_=>none
  else none
/-! ### statements -/
inductive AExit where
 |normal
 |exit (id:Nat)
 |ret
def a1i(keep:List Nat)(F:Frm):Frm:=keep.map λs=>(s,a38 F s)
def b0v(m0:Nat)(F:Frm)(H:a02):List Nat:=(a2p H a53 ((H.take m0).flatMap a0o++a08 (F.map (·.2))) []).filter λb=>Nat.ble m0 b
def b8a(m0:Nat)(σ:List Nat):Nat→Option Nat:=λb=>bif Nat.blt b m0 then some b else(σ.idxOf? b).map (m0 + ·)
def b50(π:Nat→Option Nat)(F:Frm):Frm:=F.map λx=>(x.1,ren π x.2)
def gcH(m0:Nat)(σ:List Nat)(H:a02):a02:=(H.take m0).map (Option.map (a0g (b8a m0 σ)))++a1k H σ (b8a m0 σ)
def b1y(m0:Nat)(keep:List Nat){R:Type}(body:Frm→a02→(AExit→Frm→a02→Option R)→Option R):Nat→Frm→a02→(AExit→Frm→a02→Option R)→Option R
 |0,_,_,_=>none
 |n+1,F,H,k=>
  let F1:=a1i keep F
  let σ:=b0v m0 F1 H
  bif a54 σ&&σ.all (λb=>Nat.ble m0 b)&&Nat.ble m0 H.length then
   body (b50 (b8a m0 σ) F1) (gcH m0 σ H) λe F' H'=>match e with
    |.normal=>b1y m0 keep body n F' H' k
    |e=>k e F' H'
  else none
/-! ### ranging over a set -/
def gcD(m0:Nat)(keep:List Nat)(F:Frm)(H:a02):Option (Frm×a02):=
 let F1:=a1i keep F
 let σ:=b0v m0 F1 H
 bif a54 σ&&σ.all (λb=>Nat.ble m0 b)&&Nat.ble m0 H.length then some (b50 (b8a m0 σ) F1,gcH m0 σ H)else none
def d42:List Oper→Option (Nat×Nat×List Oper)
 | []=>none
 |o::af=>match o.op,o.dst,o.guard with
  |.next (.tmp it) false,some nx,none=>some (it,nx,af)
  |_,_,_=>none
def a7m:Code→Option Nat
 |.seq (.region _ am false) _=>(d42 am.toList).map (·.1)
 |_=>none
def d45(F:Frm)(H:a02)(it:Nat):Option (AV×a02):=match a38 F it with
 |.ptr b 0 0=>match a01 H b with
  |some (.miter ks cG (some (some i)))=>some (.tuple [.bool true,.int .i64 i,.bool true],H.set b (some (.miter ks (cG++[i]) none)))
  |some (.miter ks cG (some none))=>some (.tuple [.bool false],H.set b (some (.miter ks cG none)))
  |_=>none
 |_=>none
abbrev R3:=AExit×Frm×a02
def f3u(ks aK:List Int)(a:Option Int)(F:Frm)(H:a02)(it:Nat):Option a02:=match a38 F it with
 |.ptr b 0 0=>match a01 H b with
  |some (.miter jh cG _)=>bif decide (jh=ks)&&decide (cG=aK)then some (H.set b (some (.miter ks cG (some a))))else none
  |_=>none
 |_=>none
def dropIt(F:Frm)(H:a02)(it:Nat):a02:=match a38 F it with
 |.ptr b _ _=>H.set b none
 |_=>H
def b1g(m0 it:Nat)(keep:List Nat)(ks aK:List Int)(body:Frm→a02→(AExit→Frm→a02→Option R3)→Option R3)(a:Option Int)(F:Frm)(H:a02):Option R3:=
 match gcD m0 keep F H with
 |some (F1,H1)=>match f3u ks aK a F1 H1 it with
  |some H2=>body F1 H2 λe F' H'=>some (e,F',H')
  |none=>none
 |none=>none
def a5a(m0 it:Nat)(keep:List Nat)(ks:List Int)(body:Frm→a02→(AExit→Frm→a02→Option R3)→Option R3):List Int→List Int→Frm→a02→Option R3
 |aK,[],F,H=>match b1g m0 it keep ks aK body none F H with
  |some (.normal,_,_)=>none
  |some (e,F',H')=>some (e,F',dropIt F' H' it)
  |none=>none
 |aK,i::o,F,H=>match b1g m0 it keep ks aK body (some i) F H with
  |some (.normal,F',H')=>a5a m0 it keep ks body (aK++[i]) o F' H'
  |_=>none
def e9c(m0 it:Nat)(keep:List Nat)(F:Frm)(H:a02):Option (List Int):=match gcD m0 keep F H with
 |some (F1,H1)=>match a38 F1 it with
  |.ptr b 0 0=>match a01 H1 b with
   |some (.miter ks [] _)=>some ks
   |_=>none
  |_=>none
 |none=>none
def c6f(x:Int):List Int→List (List Int)
 | []=>[[x]]
 |y::l=>(x::y::l)::(c6f x l).map (y :: ·)
def b62:List Int→List (List Int)
 | []=>[[]]
 |x::l=>(b62 l).flatMap (c6f x)
def e42:AExit→AExit→Bool
 |.normal,.normal=>true
 |.ret,.ret=>true
 |.exit a,.exit b=>Nat.beq a b
 |_,_=>false
def c5t:a02→a02→Bool
 | [],[]=>true
 |a::H,b::J=>b1x a b&&c5t H J
 |_,_=>false
def d95(x:Option R3)(r:R3):Bool:=match x with
 |some (e,F,H)=>e42 e r.1&&(b7n F r.2.1&&c5t H r.2.2)
 |none=>false
def c66(m0 it:Nat)(keep:List Nat){R:Type}(body:Frm→a02→(AExit→Frm→a02→Option R3)→Option R3)(F:Frm)(H:a02)(k:AExit→Frm→a02→Option R):Option R:=
 match e9c m0 it keep F H with
 |some ks=>match(b62 ks).map λo=>a5a m0 it keep ks body [] o F H with
  |some r::rs=>bif rs.all (λx=>d95 x r)then k r.1 r.2.1 r.2.2 else none
  |_=>none
 |none=>none
def d2x(keep:List Nat):Bool:=keep.any λs=>Nat.ble 1000000 s&&Nat.blt s 1001000
def c7p:List Nat→Nat
 | []=>0
 |s::r=>bif Nat.ble 1000000 s&&Nat.blt s 1001000 then s-1000000 else c7p r
def e34(m:Nat)(H:a02)(v:AV):AV:=match a3i m true (a58 (a01 H) m 12) v with
 |some v'=>v'
 |none=>.junk
def c2w(m:Nat)(H:a02)(F:Frm):Frm:=F.map λx=>(x.1,e34 m H x.2)
def c2v(m:Nat)(H:a02):a02:=(H.take m).map (Option.map (c0w m (a58 (a01 H) m 12)))
def yOf:List Nat→Option Nat
 | []=>none
 |s::r=>bif Nat.ble 3000000 s then some (s-3000000)else yOf r
def rfs(N f:Nat):Nat→Code→List (Nat×RInfo)
 |cur,.rangeFunc _ ps asg body=>[(cur,⟨N,ps.toList,asg,body,f⟩)]
 |cur,.seq a b=>rfs N f cur a++rfs N f cur b
 |cur,.cond _ a b=>rfs N f cur a++rfs N f cur b
 |_,.block id b=>rfs N f id b
 |cur,.loop b=>rfs N f cur b
 |cur,.scope b=>rfs N f cur b
 |_,_=>[]
def a6n(cur:Nat):List (Nat×RInfo)→Option RInfo
 | []=>none
 |(c,ri)::r=>bif Nat.beq c cur then some ri else a6n cur r
theorem a60{N f:Nat}:∀(c:Code) (cur:Nat),b4x c=true→rfs N f cur c=[]
 |.rangeFunc _ _ _ _,cur,h=>by simp[b4x]at h
 |.seq a b,cur,h=>by simp only[b4x,e9l]at h;simp[rfs,a60 a cur h.1,a60 b cur h.2]
 |.cond _ a b,cur,h=>by simp only[b4x,e9l]at h;simp[rfs,a60 a cur h.1,a60 b cur h.2]
 |.block id b,cur,h=>by simp only[rfs];exact a60 b id h
 |.loop b,cur,h=>by simp only[rfs];exact a60 b cur h
 |.scope b,cur,h=>by simp only[rfs];exact a60 b cur h
 |.skip,_,_=>rfl
 |.label _,_,_=>rfl
 |.region _ _ _,_,_=>rfl
 |.exit _,_,_=>rfl
 |.ret,_,_=>rfl
 |.goto _,_,_=>rfl
 |.refuse _,_,_=>rfl
def RFOk(E:Env)(f N:Nat)(keep:Nat→List Nat)(ro:Option Nat)(cur:Nat)(c:Code):Prop:=(ro.isSome=true→b4x c=true)∧∀x∈rfs N f cur c,∃y,yOf (keep x.1)=some y∧E.G.rnd y=some x.2
section
variable {E:Env}{f N:Nat}{keep:Nat→List Nat}{ro:Option Nat}{cur:Nat}{a b:Code}
theorem RFOk.seq1(h:RFOk E f N keep ro cur (.seq a b)):RFOk E f N keep ro cur a:=⟨λhr=>by have:=h.1 hr;simp only[b4x,e9l]at this;exact this.1,λx hx=>h.2 x (by simp[rfs,hx])⟩
theorem RFOk.seq2(h:RFOk E f N keep ro cur (.seq a b)):RFOk E f N keep ro cur b:=⟨λhr=>by have:=h.1 hr;simp only[b4x,e9l]at this;exact this.2,λx hx=>h.2 x (by simp[rfs,hx])⟩
theorem RFOk.cond1{c:Operand}(h:RFOk E f N keep ro cur (.cond c a b)):RFOk E f N keep ro cur a:=⟨λhr=>by have:=h.1 hr;simp only[b4x,e9l]at this;exact this.1,λx hx=>h.2 x (by simp[rfs,hx])⟩
theorem RFOk.cond2{c:Operand}(h:RFOk E f N keep ro cur (.cond c a b)):RFOk E f N keep ro cur b:=⟨λhr=>by have:=h.1 hr;simp only[b4x,e9l]at this;exact this.2,λx hx=>h.2 x (by simp[rfs,hx])⟩
theorem RFOk.block{id:Nat}(h:RFOk E f N keep ro cur (.block id b)):RFOk E f N keep ro id b:=⟨h.1,h.2⟩
theorem RFOk.loop(h:RFOk E f N keep ro cur (.loop b)):RFOk E f N keep ro cur b:=⟨h.1,h.2⟩
theorem RFOk.scope(h:RFOk E f N keep ro cur (.scope b)):RFOk E f N keep ro cur b:=⟨h.1,h.2⟩
end
def c3l(H:a02)(b:Nat)(old new:YSt):Option a02:=match a01 H b with
 |some (.yloop y F st)=>bif decide (st=old)then some (H.set b (some (.yloop y F new)))else none
 |_=>none
def e2e(H:a02)(b:Nat):Option YSt:=match a01 H b with
 |some (.yloop _ _ st)=>some st
 |_=>none
def a3x(E:Env)(m0 N:Nat)(keep:Nat→List Nat)(call:FuncId→List AV→a02→Option (AV×a02))(lf:Nat) :
 Nat→Code→{R:Type}→Frm→a02→(AExit→Frm→a02→Option R)→Option R
 |_,.skip,_,F,H,k=>k .normal F H
 |_,.label _,_,F,H,k=>k .normal F H
 |_,.region _ am ah,_,F,H,k=>match d42 am.toList with
  |none=>a2e E ah N call am.toList am.toList [] F H λF' H'=>k .normal F' H'
  |some (it,nx,af)=>bif ah || !Nat.blt nx N then none else match d45 F H it with
   |some (v,H')=>a2e E false N call am.toList af [⟨[],[]⟩] (a3l F (some nx) v) H' λF' H'=>k .normal F' H'
   |none=>none
 |cur,.seq a b,_,F,H,k=>a3x E m0 N keep call lf cur a F H λe F' H'=>match e with
  |.normal=>a3x E m0 N keep call lf cur b F' H' k
  |e=>k e F' H'
 |cur,.cond c x y,_,F,H,k=>match opv E F c with
  |.bool t=>bif t then a3x E m0 N keep call lf cur x F H k else a3x E m0 N keep call lf cur y F H k
  |_=>none
 |_,.block id b,_,F,H,k=>a3x E m0 N keep call lf id b F H λe F' H'=>match e with
  |.exit id'=>bif id'==id then k .normal F' H' else k (.exit id') F' H'
  |e=>k e F' H'
 |cur,.loop b,_,F,H,k=>match a7m b with
  |none=>b1y m0 (keep cur) (λF H k=>a3x E m0 N keep call lf cur b F H k) lf F H λe F' H'=>bif d2x (keep cur)then k e (c2w (m0+c7p (keep cur)) H' F') (c2v (m0+c7p (keep cur)) H')else k e F' H'
  |some it=>c66 m0 it (keep cur) (λF H k=>a3x E m0 N keep call lf cur b F H k) F H k
 |cur,.rangeFunc f _ _ _,_,F,H,k=>match opv E F f,yOf (keep cur)with
  |.func (.func g) fs cs,some y=>bif (E.fn g).isSome && !(E.ext g)then
   match a1r (call g) (fs++[.yfn H.length]++cs) (H++[some (.yloop y (a1i (keep cur) F) .ready)])with
   |some (_,H2,_)=>match e2e H2 H.length with
    |some .ready=>k .normal F (H2.set H.length none)
    |some (.done none)=>k .ret F (H2.set H.length none)
    |some (.done (some id))=>k (.exit id) F (H2.set H.length none)
    |_=>none
   |none=>none
   else none
  |_,_=>none
 |cur,.scope b,_,F,H,k=>a3x E m0 N keep call lf cur b F H k
 |_,.exit id,_,F,H,k=>k (.exit id) F H
 |_,.ret,_,F,H,k=>k .ret F H
 |_,_,_,_,_,_=>none
/-! ### functions -/
def a18(E:Env)(F:Frm)(H:a02):List ResultVar→Option (List AV)
 | []=>some []
 |.tmp t::r=>match a18 E F H r with
  |some vs=>some (a38 F t::vs)
  |none=>none
 |.cell a t::r=>match a5e E (a01 H) t (a38 F a),a18 E F H r with
  |some v,some vs=>some (v::vs)
  |_,_=>none
def a66:List AV→AV
 | [v]=>v
 |vs=>.tuple vs
def a4n:Nat→List AV→Frm
 |_,[]=>[]
 |i,v::vs=>(i,v)::a4n (i+1) vs
def a4o(h:FHeap)(b:Nat):FHeap:=λx=>bif Nat.beq x b then none else h x
def d7w(m:Nat)(v:AV)(H:a02):Option (AV×a02):=match v with
 |.ptr b i o=>bif Nat.ble m b then(match a01 H b with
  |some (.row k rows)=>match b97 m (a58 (a4o (a01 H) b) m 12) rows with
   |some be=>some (.ptr m i o,(H.take m).map (Option.map (a0g (a1b m)))++[some (.row k be)])
   |none=>none
  |_=>none)else none
 |.slice b off len cap=>some (.slice b off len cap,H)
 |.agg cs=>some (.agg cs,H)
 |.tuple cs=>some (.tuple cs,H)
 |.map b=>some (.map b,H)
 |.func f fs cs=>some (.func f fs cs,H)
 |.nilslice=>some (.nilslice,(H.take m).map (Option.map (a0g (a1b m))))
 |_=>none
def a10(thaw:Bool)(m:Nat)(v:AV)(H:a02):Option (AV×a02):=
 bif thaw then(bif Nat.beq m 0 then d7w m v H else some (v,H))else match a3i m true (a58 (a01 H) m 12) v with
  |some v'=>some (v',(H.take m).map (Option.map (a0g (a1b m))))
  |none=>some (v,H)
def b2q:Frm→List Nat→List AV→Frm
 |F,t::ts,v::vs=>b2q (a3l F (some t) v) ts vs
 |F,_,_=>F
def a70(E:Env)(call:FuncId→List AV→a02→Option (AV×a02))(lf:Nat)(args:List AV)(H:a02):Option (AV×a02):=match args with
 |.yfn b::vs=>match a01 H b with
  |some (.yloop y F .ready)=>match E.G.rnd y with
   |some ri=>bif Nat.beq vs.length ri.ps.length&&ri.ps.all (Nat.blt · ri.N)then
    a3x E H.length ri.N (E.keep ri.fid) call lf 0 ri.asg (b2q F ri.ps vs) H λe F' H'=>match e with
     |.normal=>match c3l H' b .ready .busy with
      |some H1=>a3x E H.length ri.N (E.keep ri.fid) call lf 0 ri.body F' H1 λe _ H2=>match e with
       |.normal=>(c3l H2 b .busy .ready).map (.bool true,·)
       |.ret=>(c3l H2 b .busy (.done none)).map (.bool false,·)
       |.exit id=>(c3l H2 b .busy (.done (some id))).map (.bool false,·)
      |none=>none
     |_=>none
    else none
   |none=>none
  |_=>none
 |_=>none
end Go.Ax
/- AxNow: what e5b at a48 point of a function's run, against its entry. -/
namespace Go.Ax
structure Entry where
 I:Nat→Prop
 K:Nat→Prop
 ρ:PMap
 m:Nat
 w:World
def Marks(e:Entry)(I:Nat→Prop)(w:World)(ds:List Deferred):Prop:=∃rs:List Nat,ds=rs.map (λr=>(⟨.collected r,#[]⟩:Deferred))∧rs.Nodup∧∀r∈rs,I r∧e.w.heap.size≤r∧w.heap[r]?=some (.deferred (some []))
theorem Marks.nil{e:Entry}{I:Nat→Prop}{w:World}:Marks e I w []:=⟨[],rfl,List.nodup_nil,λ_ h=>(by cases h)⟩
theorem Marks.mono{e:Entry}{I I':Nat→Prop}{w w':World}{ds:List Deferred}(h:Marks e I w ds)(hI:∀c,I c→I' c)(hw:∀c,I c→w'.heap[c]?=w.heap[c]?):Marks e I' w' ds:=by obtain⟨rs,h1,h2,h3⟩:=h;exact⟨rs,h1,h2,λr hr=>⟨hI r (h3 r hr).1,(h3 r hr).2.1,by rw[hw r (h3 r hr).1];exact(h3 r hr).2.2⟩⟩
theorem a30{a:Act}{d:Option Nat}{c:Value}:(a.put d c).defers=a.defers:=by cases d<;>rfl
def NRel(ρ:PMap)(n:Nat):Prop:=∀b,n≤b→ρ b=none
structure Now(E:Env)(e:Entry)(N:Nat)(F:Frm)(H:a02)(I:Nat→Prop)(ρ:PMap)(a:Act)(w:World):Prop where
 imm:∀c,e.I c→I c
 map:∀b,b<e.m→ρ b=e.ρ b
 ext:Ext e.I e.K e.w w
 rel:HRel E.G I e.K ρ (a01 H) w
 nrel:NRel ρ H.length
 frm:FRel I w ρ N F a.tmps
 low:e.m≤H.length
 marks:Marks e I w a.defers
section
variable {E:Env}
theorem b78(H:a02):a01 H H.length=none:=by simp[a01]
theorem c4s(H:a02)(e:Eff):∀b o,a01 (b16 H e) b=some o→((a01 H).eff H.length e) b=some o:=by
 intro b o hb;cases e with
 |none=>exact hb
 |new o1=>
  simp only[b16,a01,FHeap.eff,FHeap.set]at hb⊢;by_cases h:b=H.length
  ·subst h;simp at hb;simp[hb]
  ·rw[f0j h];rcases f4i b H.length with h1|h1
   ·rwa [f0i h1]at hb
   ·rw[f2n (by simp;omega)]at hb;simp at hb
 |set b1 o1=>
  simp only[b16,a01,FHeap.eff,FHeap.set]at hb⊢;rw[f2v]at hb;by_cases h:b=b1
  ·subst h;rw[f1r rfl]at hb⊢;split at hb
   ·simpa using hb
   ·simp at hb
  ·rw[f0j (λe=>h e.symm)]at hb;rw[f0j h];exact hb
 |kill b1 o1=>
  simp only[b16,a01,FHeap.eff,FHeap.set]at hb⊢;by_cases h:b=H.length
  ·subst h;rw[f1n (by simp)]at hb;simp at hb;simp[hb]
  ·rw[f0j h];rcases f4i b H.length with h1|h1
   ·rw[f0i (by simpa using h1),f2v]at hb;by_cases h2:b=b1
    ·subst h2;rw[f1r rfl]at hb;split at hb<;>simp at hb
    ·rw[f0j (λe=>h2 e.symm)]at hb;rw[f0j h2];exact hb
   ·rw[f2n (by simp;omega)]at hb;simp at hb
theorem a98(H:a02)(e:Eff):(b16 H e).length=if e.fresh then H.length+1 else H.length:=by cases e<;>simp[b16,Eff.fresh]
theorem NRel.moves{ρ ρ':PMap}{H:a02}{e:Eff}(hn:NRel ρ H.length)(hm:Moves ρ ρ' H.length e):NRel ρ' (b16 H e).length:=by
 intro b hb;rw[a98]at hb;cases hf:e.fresh with
 |false=>rw[hf]at hb;rw[hm.2 hf];exact hn b (by simpa using hb)
 |true=>
  rw[hf]at hb;have hb:H.length+1≤b:=by simpa using hb
  rw[hm.1 b (by omega)];exact hn b (by omega)
theorem Now.op(ok:EnvOk E){e:Entry}{N:Nat}{F:Frm}{H:a02}{I:Nat→Prop}{ρ:PMap}{a:Act}{w:World}(h:Now E e N F H I ρ a w){o:Oper}{v:AV}{eff:Eff}
 (ha:aop E H.length (a01 H) o.op (opv E F)=some (v,eff))(hd:a6t N o.dst=true) :
 ∃x w' c ρ',(execOp a.eval o).run E.P w = .ok x w'∧(x = .value c∨(x = .skip∧c=undef))∧Now E e N (a3l F o.dst v) (b16 H eff) I ρ' (a.put o.dst c) w':=by
 obtain⟨x,w',c,ρ',ac,hx,step,hv,hm⟩:=d8f ok h.rel (b78 H) (h.nrel _ (f1u _)) ha (b35 h.rel h.frm);refine⟨x,w',c,ρ',ac,hx,?_⟩;have lz:∀s,o.dst=some s→s<N:=by intro s hs;rw[hs]at hd;simpa[a6t,f2p]using hd
 refine⟨h.imm,λb hb=>?_,h.ext.trans h.imm step.ext,step.rel.fewer (c4s H eff),h.nrel.moves hm,?_,?_,?_⟩
 ·rw[hm.1 b (by have:=h.low;omega)];exact h.map b hb
 ·exact(FRel.mono h.frm (λv c hv=>step.vrel hv)).set lz hv
 ·rw[a98];have:=h.low;split<;>omega
 ·rw[a30];exact h.marks.mono (λ_ h=>h) (λc hc=>step.ext.keep c (.inl hc))
theorem Now.refine{e:Entry}{N:Nat}{F:Frm}{H:a02}{I:Nat→Prop}{ρ:PMap}{a:Act}{w:World}(h:Now E e N F H I ρ a w){d:Nat}{v:AV}(hv:VRel I w ρ v (a.tmps.getD d undef)) :
 Now E e N (a3l F (some d) v) H I ρ a w:=
 { h with frm:=⟨h.frm.1,λs=>by
  rw[a82];split
  ·rename_i hs;subst hs;exact hv
  ·exact h.frm.2 s⟩ }
theorem Now.skip{e:Entry}{N:Nat}{F:Frm}{H:a02}{I:Nat→Prop}{ρ:PMap}{a:Act}{w:World}(h:Now E e N F H I ρ a w){o:Oper}(hd:a6t N o.dst=true) :
 Now E e N (a3l F o.dst (.tuple [])) H I ρ (a.put o.dst undef) w:=
 { h with
  frm:=h.frm.set (by intro s hs;rw[hs]at hd;simpa[a6t,f2p]using hd) (by simp only[VRel,undef];exact⟨#[],rfl,by simp[VRels]⟩)
  marks:=by rw[a30];exact h.marks }
end
end Go.Ax
/- AxCall: a call on the blocks that its arguments a2p, and back. -/
namespace Go.Ax
structure Ret(E:Env)(I K:Nat→Prop)(ρ:PMap)(m:Nat)(w:World)(I':Nat→Prop)(ρ':PMap)(H':a02)(w':World):Prop where
 imm:∀c,I c→I' c
 map:∀b,b<m→ρ' b=ρ b
 ext:Ext I K w w'
 rel:HRel E.G I' K ρ' (a01 H') w'
 nrel:NRel ρ' H'.length
 low:m≤H'.length
abbrev f3x:=List Value→World→(Ending→World→Prop)→Prop
def XR(E:Env):f3x:=λak w R=>∃l vs fn tmps asg body,ak = .func (.yield l) #[] #[]::vs∧(Instr.yield l vs.toArray).run E.P w = .ok (.round l fn tmps asg body) w∧RoundIn Fence.wide 0 E.P l fn tmps asg body w R
def XOf(E:Env)(g:FuncId):f3x:=if g=yId then XR E else λak w R=>Calls E.P g ak.toArray w R
theorem XOf.mono{E:Env}{g:FuncId}{ak:List Value}{w:World}{R R':Ending→World→Prop}(h:XOf E g ak w R)(hr:∀e w',R e w'→R' e w'):XOf E g ak w R':=by
 unfold XOf at h⊢;split at h
 ·rename_i hg;rw[f1r hg];obtain⟨l,vs,fn,tmps,asg,body,h1,h2,h3⟩:=h;exact⟨l,vs,fn,tmps,asg,body,h1,h2,h3.mono hr⟩
 ·rename_i hg;rw[f0j hg];exact Calls.mono h hr
theorem b0b{E:Env}{g:FuncId}(hg:g≠yId):XOf E g=λak w R=>Calls E.P g ak.toArray w R:=f0j hg
theorem e2b{E:Env}:XOf E yId=XR E:=f1r rfl
theorem c6m{E:Env}(ok:EnvOk E){g:FuncId}{i:FInfo}(h:E.fn g=some i):g≠yId:=λe=>by rw[e,ok.yid]at h;cases h
def b0d(E:Env)(f:FuncId)(run:List AV→a02→Option (AV×a02)):Prop:=
 ∀args H v H',run args H=some (v,H')→∀(I K:Nat→Prop) (ρ:PMap) (w:World) (ak:List Value),HRel E.G I K ρ (a01 H) w→NRel ρ H.length→VRels I w ρ args ak→
  XOf E f ak w λen w'=>∃c I' ρ',en = .returned c∧Ret E I K ρ H.length w I' ρ' H' w'∧VRel I' w' ρ' v c
def b4w(K:Nat→Prop)(ρ:PMap)(hp:FHeap)(σ:List Nat):Nat→Prop:=λc=>K c∨∃b o m,hp b=some o∧ρ b=some m∧m.blk=c∧b∉σ
theorem a1p{σ:List Nat}{b j:Nat}(h:σ.idxOf? b=some j):σ[j]?=some b:=by rw[List.idxOf?_eq_some_iff]at h;obtain⟨hj,hb,_⟩:=h;rw[z9e hj,hb]
theorem b0u{σ:List Nat}{b:Nat}(h:σ.idxOf? b=none):b∉σ:=by simpa[List.idxOf?_eq_none_iff]using h
theorem a8j{l:List Nat}(h:a54 l=true):l.Nodup:=by
 induction l with
 |nil=>exact List.nodup_nil
 |cons b r ih=>simp only[a54,e9l,f3z,←Bool.not_eq_true,a2s]at h;exact f5q.2 ⟨h.1,ih h.2⟩
theorem a44{σ:List Nat}{b j:Nat}(hn:σ.Nodup)(h:σ[j]?=some b):σ.idxOf? b=some j:=by rw[List.idxOf?_eq_some_iff];obtain⟨hj,hb⟩:=e9k.1 h;refine⟨hj,hb,λi hi he=>?_⟩;have:=(List.getElem_inj (h₀:=by omega) (h₁:=hj) hn).1 (he.trans hb.symm);omega
section
variable {E:Env}{I K:Nat→Prop}{ρ:PMap}{hp:FHeap}{w:World}{σ:List Nat}
def a5o(hp:FHeap)(σ:List Nat):a02:=σ.map λb=>(hp b).map (a0g (a4m σ))
theorem b5k(j:Nat):a01 (a5o hp σ) j=(σ[j]?).bind λb=>(hp b).map (a0g (a4m σ)):=by simp only[a01,a5o,f0d];cases σ[j]?<;>simp
theorem c9x(r:HRel E.G I K ρ hp w)(hn:σ.Nodup):HRel E.G I (b4w K ρ hp σ) (λj=>(σ[j]?).bind ρ) (a01 (a5o hp σ)) w:=by
 have r1:HRel E.G I K (λj=>(σ[j]?).bind ρ) (a01 (a5o hp σ)) w:=by
  refine r.rename (π:=a4m σ) ?_ ?_ ?_
  ·intro b j m hj hb;have:=a1p hj;simp only[this,f5m,hb]
  ·intro j o' ho;rw[b5k]at ho;cases hb:σ[j]? with
   |none=>rw[hb]at ho;simp at ho
   |some b=>
    rw[hb]at ho;simp only[f5m]at ho;cases gb:hp b with
    |none=>rw[gb]at ho;simp at ho
    |some o=>rw[gb]at ho;simp only[f0e,Option.some.injEq]at ho;exact⟨b,o,gb,a44 hn hb,ho.symm⟩
  ·intro j m hj;cases hb:σ[j]? with
   |none=>rw[hb]at hj;simp at hj
   |some b=>rw[hb]at hj;exact r.dom b m hj
 refine⟨?_,r1.inj,r1.dom,r1.imm,?_,?_,r1.glob⟩
 ·intro j o' ho;obtain⟨m,h1,h2,h3,h4⟩:=r1.live j o' ho;refine⟨m,h1,h2,?_,h4⟩
  rintro(hk|⟨b,o,m',hb,aV,he,j1⟩)
  ·exact h3 hk
  ·rw[b5k]at ho;cases hσ:σ[j]? with
   |none=>rw[hσ]at ho;simp at ho
   |some b'=>
    rw[hσ]at ho h1;simp only[f5m]at ho h1;have hl:(hp b').isSome:=by cases h:hp b' with|none=>rw[h]at ho;simp at ho|some _=>rfl
    have:=r.inj b b' m' m (by simp[hb]) hl aV h1 he;subst this;exact j1 (c10 hσ)
 ·rintro c (hk|⟨b,o,m',hb,aV,rfl,_⟩)
  ·exact r.kept c hk
  ·exact r.dom b m' aV
 ·rintro c hc (hk|⟨b,o,m',hb,aV,rfl,_⟩)
  ·exact r.apart c hc hk
  ·obtain⟨sN,h1,h2,_⟩:=r.live b o hb;obtain rfl:m'=sN:=z9o (aV.symm.trans h1);exact h2 hc
theorem b8o{g:FuncId}{run:List AV→a02→Option (AV×a02)}(ac:b0d E g run){args:List AV}{ak:List Value}{v1:AV}{H1:a02}
 (ae:run (args.map (ren (a4m σ))) (a5o hp σ)=some (v1,H1))(r:HRel E.G I K ρ hp w)(hn:σ.Nodup)(ha:VRels I w ρ args ak) :
 XOf E g ak w λen w'=>∃c I1 ρ1,en = .returned c∧Ret E I (b4w K ρ hp σ) (λj=>(σ[j]?).bind ρ) σ.length w I1 ρ1 H1 w'∧VRel I1 w' ρ1 v1 c:=by
 have h:=ac _ _ _ _ ae I (b4w K ρ hp σ) (λj=>(σ[j]?).bind ρ) w ak (c9x r hn)
  (by intro j hj;simp only[a5o,c11]at hj;simp[f2n hj])
  (by rw[←a72];exact VRels.ren (λb j m hj hb=>by have:=a1p hj;simp only[this,f5m,hb]) args ha)
 simpa[a5o]using h
theorem b8q{n:Nat}{I1:Nat→Prop}{ρ1:PMap}{H1:a02}{w':World}(r:HRel E.G I K ρ hp w)(_:σ.Nodup)
 (aB:Ret E I (b4w K ρ hp σ) (λj=>(σ[j]?).bind ρ) σ.length w I1 ρ1 H1 w'){ρ2:PMap}{h2:FHeap}
 (aF:∀b m,ρ b=some m→ρ2 b=some m)(bW:∀j b m,a13 σ n j=some b→ρ1 j=some m→ρ2 b=some m)
 (lx:∀b m,ρ2 b=some m→ρ b=some m∨∃j,ρ1 j=some m)
 (hh:∀b o,h2 b=some o→(b∉σ∧hp b=some o)∨∃j o1,a13 σ n j=some b∧a01 H1 j=some o1∧o=a0g (a13 σ n) o1) :
 HRel E.G I1 K ρ2 h2 w':=by
 have bJ:=aB.ext.size;have bM:∀c,I c→w'.heap[c]?=w.heap[c]?:=λc hc=>aB.ext.keep c (.inl hc);have r1:=aB.rel;have ig:∀b o,h2 b=some o→∃m,ρ2 b=some m∧¬I1 m.blk∧¬K m.blk∧ORel E.G I1 w' ρ2 m o∧((b∉σ∧hp b=some o∧ρ b=some m)∨∃j,a13 σ n j=some b∧(a01 H1 j).isSome∧ρ1 j=some m):=by
  intro b o hb;rcases hh b o hb with ⟨j1,gb⟩|⟨j,o1,hj,d7,rfl⟩
  ·obtain⟨m,h1,h3,h4,h5⟩:=r.live b o gb;have rQ:b4w K ρ hp σ m.blk:=.inr ⟨b,o,m,gb,h1,rfl,j1⟩;refine⟨m,aF b m h1,λhc=>r1.apart _ hc rQ,h4,?_,.inl ⟨j1,gb,h1⟩⟩;exact ORel.mono o aB.imm bM aF (aB.ext.keep _ (.inr rQ)) h5
  ·obtain⟨m,h1,h3,h4,h5⟩:=r1.live j o1 d7;refine⟨m,bW j b m hj h1,h3,λhk=>h4 (.inl hk),ORel.ren (λj b m hj h=>bW j b m hj h) o1 h5,.inr ⟨j,hj,by simp[d7],h1⟩⟩
 refine⟨?_,?_,?_,r1.imm,?_,?_,r1.glob⟩
 ·intro b o hb;obtain⟨m,h1,h3,h4,h5,_⟩:=ig b o hb;exact⟨m,h1,h3,h4,h5⟩
 ·intro b b' m m' hb aL hm aV he;obtain⟨o,ho⟩:=f0c.1 hb;obtain⟨o',dT⟩:=f0c.1 aL;obtain⟨q,hq,_,_,_,hc⟩:=ig b o ho;obtain⟨q',fk,_,_,_,oV⟩:=ig b' o' dT;rw[hm]at hq;cases hq;rw[aV]at fk;cases fk;rcases hc with ⟨j1,gb,h1⟩|⟨j,hj,hl,h1⟩<;>rcases oV with ⟨pN,mX,cO⟩|⟨j',j6,oS,cO⟩
  ·exact r.inj b b' m m' (by simp[gb]) (by simp[mX]) h1 cO he
  ·exfalso;obtain⟨o1,d7⟩:=f0c.1 oS;obtain⟨q,hq,_,hk,_⟩:=r1.live j' o1 d7;rw[cO]at hq;cases hq;exact hk (.inr ⟨b,o,m,gb,h1,he,j1⟩)
  ·exfalso;obtain⟨o1,d7⟩:=f0c.1 hl;obtain⟨q,hq,_,hk,_⟩:=r1.live j o1 d7;rw[h1]at hq;cases hq;exact hk (.inr ⟨b',o',m',mX,cO,he.symm,pN⟩)
  ·have:=r1.inj j j' m m' hl oS h1 cO he;subst this;rw[hj]at j6;exact z9o j6
 ·intro b m hb;rcases lx b m hb with h|⟨j,h⟩
  ·have:=r.dom b m h;omega
  ·exact r1.dom j m h
 ·intro c hc;have:=r.kept c hc;omega
 ·intro c hc hk;exact r1.apart c hc (.inl hk)
end
end Go.Ax
/- AxCall2: a call in sequence; the concrete step of a call. -/
namespace Go.Ax
section
variable {E:Env}{I K:Nat→Prop}{ρ:PMap}{w:World}
theorem a73(σ:List Nat)(n:Nat)(H1:a02):∀(b0:Nat) (H:a02) (i:Nat),
 (a0w σ n H1 b0 H)[i]?=(H[i]?).map λo=>match σ.idxOf? (b0+i)with
  |some j=>(a01 H1 j).map (a0g (a13 σ n))
  |none=>o
 |b0,[],i=>by simp[a0w]
 |b0,o::r,0=>by simp[a0w]<;>rfl
 |b0,o::r,i+1=>by simp only[a0w,f1q];rw[a73 σ n H1 (b0+1) r i,show b0+1+i=b0+(i+1) by omega]
theorem a17(σ:List Nat)(n:Nat)(H1:a02):∀(b0:Nat) (H:a02),(a0w σ n H1 b0 H).length=H.length
 |b0,[]=>by simp[a0w]
 |b0,o::r=>by simp[a0w,a17 σ n H1 (b0+1) r]
theorem b17{g:FuncId}{run:List AV→a02→Option (AV×a02)}(ac:b0d E g run){args:List AV}{ak:List Value}{H H':a02}{v:AV}{σ:List Nat}
 (ae:a1r run args H=some (v,H',σ))(r:HRel E.G I K ρ (a01 H) w)(hn:NRel ρ H.length)(ha:VRels I w ρ args ak) :
 XOf E g ak w λen w'=>∃c I' ρ',en = .returned c∧Ret E I K ρ H.length w I' ρ' H' w'∧VRel I' w' ρ' v c:=by
 unfold a1r at ae;simp only at ae;generalize hσ:a2p H a53 (a08 args) []=σ' at ae;rw[cond_eq_ite]at ae;split at ae
 case isFalse=>cases ae
 rename_i hc;simp only[e9l,f2u,f2p]at hc;obtain⟨aY,ag⟩:=hc;have aY:=a8j aY;split at ae
 case h_2=>cases ae
 rename_i v1 H1 hr;simp only[Option.some.injEq,Prod.mk.injEq]at ae;obtain⟨rfl,rfl,rfl⟩:=ae;have iA:run (args.map (ren (a4m σ'))) (a5o (a01 H) σ')=some (v1,H1):=hr;refine XOf.mono (b8o ac iA r aY ha) ?_
 rintro en w' ⟨c,I1,ρ1,rfl,aB,hv⟩
 have bW:∀j b m,a13 σ' H.length j=some b→ρ1 j=some m→(if b<H.length then ρ b else ρ1 (σ'.length+(b-H.length)))=some m:=by
  intro j b m hj hm;simp only[a13]at hj;rw[cond_eq_ite]at hj;split at hj
  ·rename_i bu;have bu:j<σ'.length:=by simpa[f2p]using bu
   have hb:=ag b (c10 hj);rw[f1r hb];have:=aB.map j bu;rw[hm,hj]at this;exact this.symm
  ·rename_i bu;have bu:σ'.length≤j:=by simpa[f2p]using bu
   cases hj;rw[f0j (by omega),show σ'.length+(H.length+(j-σ'.length)-H.length)=j by omega];exact hm
 have aF:∀b m,ρ b=some m→(if b<H.length then ρ b else ρ1 (σ'.length+(b-H.length)))=some m:=by
  intro b m hb;have:b<H.length:=by
   rcases f4i b H.length with h|h
   ·exact h
   ·rw[hn b h]at hb;cases hb
  rw[f1r this];exact hb
 refine⟨c,I1,λb=>if b<H.length then ρ b else ρ1 (σ'.length+(b-H.length)),rfl,⟨aB.imm,λb hb=>by rw[f1r hb],aB.ext.keepLess (λc hc=>.inl hc),?_,?_,?_⟩,?_⟩
 ·refine b8q r aY aB aF bW ?_ ?_
  ·intro b m hb;split at hb
   ·exact .inl hb
   ·exact .inr ⟨_,hb⟩
  ·intro b o hb;simp only[a01]at hb;rcases f4i b H.length with bE|bE
   ·rw[f0i (by rw[a17];exact bE),a73]at hb;simp only[f3e]at hb;rw[z9e bE]at hb;simp only[f0e,f3n]at hb;split at hb
    ·rename_i j hj;right;have hσj:=a1p hj;have bu:=(e9k.1 hσj).1;obtain⟨o1,d7,rfl⟩:=a05 hb;refine⟨j,o1,?_,d7,rfl⟩;simp only[a13];rw[cond_eq_ite,f1r (by simpa[f2p]using bu)];exact hσj
    ·rename_i hj;left;exact⟨b0u hj,by simp only[a01];rw[z9e bE];simpa using hb⟩
   ·right;rw[f1n (by rw[a17];exact bE),a17,f0d,f6i]at hb;refine⟨σ'.length+(b-H.length),?_⟩;cases hx:H1[σ'.length+(b-H.length)]? with
    |none=>rw[hx]at hb;simp at hb
    |some ob=>
     rw[hx]at hb;simp only[f0e,f3n]at hb;obtain⟨o1,rfl,rfl⟩:=a05 hb;refine⟨o1,?_,by simp[a01,hx],rfl⟩;simp only[a13];rw[cond_eq_ite,f0j (by simp[f2p])]
     congr 1;omega
 ·intro b hb;simp only[f1o,a17,c11,List.length_drop]at hb;have bg:=aB.low;dsimp only;rw[f0j (by omega)];exact aB.nrel _ (by omega)
 ·simp[a17]
 ·exact VRel.ren (λj b m hj hm=>bW j b m hj hm) v1 hv
theorem a9y{a:Act}{o:Oper}{f:Operand}{args:Array Operand}{oA:Array TypeId}(ho:o.op = .call ⟨.value f,args,oA⟩){g:FuncId}{fs cs:Array Value}(hf:a.eval f = .func (.func g) fs cs) :
 (execOp a.eval o).run E.P w=(callFunc g (fs++args.map a.eval++cs)).run E.P w:=by
 obtain⟨dst,op,type,pos,after,guard⟩:=o;simp only at ho;subst ho;simp[execOp,resolve,hf,Deferred.ofValue,invoke]
theorem a3w(ok:EnvOk E){g:FuncId}(hg:(E.fn g).isSome=true)(args:Array Value):(callFunc g args).run E.P w = .ok (.enter g args) w:=by
 obtain⟨i,hi⟩:=f0c.1 hg;obtain⟨fn,h1,h2,_,_,h5⟩:=ok.fn g i hi
 have h6:¬fn.name = "runtime.NumGoroutine" := by simpa using h5
 simp[callFunc,h1,h2,h6]
theorem b1r(ok:EnvOk E){g:FuncId}(hg:E.ext g=true)(bv:(E.fn g).isSome=false){args:List AV}{ak:List Value}{v:AV}(hv:f1b args=some v)(ha:VRels I w ρ args ak) :
 ∃c,(callFunc g ak.toArray).run E.P w = .ok (.value c) w∧VRel I w ρ v c:=by
 obtain⟨fn,h1,h2,h3,h4,h5⟩:=ok.ext g hg bv;unfold f1b at hv;split at hv
 case h_2=>cases hv
 rename_i s cc;cases hv;simp only[VRels]at ha;obtain⟨c1,_,rfl,hs,c2,_,rfl,hb,rfl⟩:=ha;simp only[VRel]at hs hb;obtain⟨t,rfl,ht⟩:=hs;subst hb;refine⟨.int .i64 (Lib.indexByte s cc.toNat.toUInt8),?_,by simp[VRel]⟩;have:=Lib.run_indexByteString (P:=E.P) t cc w;rw[ht]at this
 have h6:¬fn.name = "runtime.NumGoroutine" := by simpa using h3
 simp[callFunc,h1,h2,h6,h4,h5,this]
end
end Go.Ax
/- AxWf: the walk of a function's body and that of a round's, in one. -/
namespace Go.Ax
def wf:Option Nat→Fence
 |none=>Fence.wide
 |some l=>Fence.wide.inRound l
@[simp] theorem d8o(ro:Option Nat)(f:FuncId):(wf ro).fn f:=by cases ro<;>trivial
@[simp] theorem d35(ro:Option Nat):(wf ro).round=ro:=by cases ro<;>rfl
@[simp] theorem e6m(ro:Option Nat):(wf ro).depth=none:=by cases ro<;>rfl
theorem d6d{ro:Option Nat}{n:Nat}{P:Program}{f:FuncId}{args:Array Value}{w:World}{R:Ending→World→Prop}:CallsIn (wf ro) n P f args w R↔Calls P f args w R:=by
 cases ro
 ·exact callsIn_wide
 ·exact callsIn_wide (n:=n)
theorem d3r{ro:Option Nat}{n:Nat}{P:Program}{l:Nat}{f:FuncId}{tmps:Array Value}{assign body:Code}{w:World}{R:Ending→World→Prop} :
 RoundIn (wf ro) n P l f tmps assign body w R↔RoundIn Fence.wide n P l f tmps assign body w R:=by
 cases ro<;>exact Iff.rfl
section
variable {P:Program}{ro:Option Nat}{o:Oper}{a:Act}{w:World}{K:Act→World→Prop}{Q:Exit→Act→World→Prop}
theorem a7q(hd:∀c,o.op≠ .defer c)(h:o.uponIn (wf ro) 0 P a K Q ((execOp a.eval o).run P w)):o.wpIn (wf ro) 0 P a w K Q:=⟨λf _=>d8o ro f,by rw[d35,Oper.semAt_eq _ _ _ hd];exact h⟩
theorem a8b{f:FuncId}{args:Array Value}(h:Calls P f args w fun
 |.returned v,i6=>K (a.put o.dst v) i6
 |.panicked chain,i6=>Q (.panic chain) a i6
 |.outgrown,_=>LetsOut Q):o.uponIn (wf ro) 0 P a K Q (.ok (.enter f args) w):=
 ⟨λh=>by simp at h,d6d.2 h⟩
theorem b5j{l:Nat}{f:FuncId}{tmps:Array Value}{assign body:Code}(h:RoundIn Fence.wide 0 P l f tmps assign body w fun
 |.returned v,i6=>K (a.put o.dst v) i6
 |.panicked chain,i6=>Q (.panic chain) a i6
 |.outgrown,_=>LetsOut Q):o.uponIn (wf ro) 0 P a K Q (.ok (.round l f tmps assign body) w):=
 ⟨λh=>by simp at h,d3r.2 h⟩
theorem b4t{E:Env}{n:Nat}{h:FHeap}{op:Op}{v:Operand→AV}{r:AV×Eff}(ha:aop E n h op v=some r):∀c,op≠ .defer c:=by
 rintro c rfl
 simp[aop]at ha
theorem b6t{f:Operand}{args:Array Operand}{oA:Array TypeId}(ho:o.op = .call ⟨.value f,args,oA⟩){l:Nat}(hf:a.eval f = .func (.yield l) #[] #[]) :
 (execOp a.eval o).run P w=(Instr.yield l (args.map a.eval)).run P w:=by
 obtain⟨dst,op,type,pos,after,guard⟩:=o;simp only at ho;subst ho;simp[execOp,resolve,hf,Deferred.ofValue,invoke]
end
end Go.Ax
/- AxLend: lent calls: the callee sees its caller's memory as immutable, and gives new memory only, which is frozen at once. -/
namespace Go.Ax
section
variable {I I':Nat→Prop}{w:World}{ρ:PMap}
mutual
theorem VRel.noI:∀(v:AV) {c:Value},noI v=true→VRel I w ρ v c→VRel I' w ρ v c
 |.junk,c,_,h=>by simp[VRel]
 |.bool b,c,_,h=>by simpa[VRel]using h
 |.int k n,c,_,h=>by simpa[VRel]using h
 |.str s,c,_,h=>by simpa[VRel]using h
 |.nilptr,c,_,h=>by simpa[VRel]using h
 |.nilslice,c,_,h=>by simpa[VRel]using h
 |.nilmap,c,_,h=>by simpa[VRel]using h
 |.nilfunc,c,_,h=>by simpa[VRel]using h
 |.nilifc,c,_,h=>by simpa[VRel]using h
 |.ptr b i o,c,_,h=>by simpa only[VRel]using h
 |.slice b off len cap,c,_,h=>by simpa only[VRel]using h
 |.map b,c,_,h=>by simpa only[VRel]using h
 |.yfn b,c,_,h=>by simpa only[VRel]using h
 |.iptr cs,c,hn,_=>by simp[Ax.noI]at hn
 |.islice rows cap,c,hn,_=>by simp[Ax.noI]at hn
 |.imap ks vs bs bh,c,hn,_=>by simp[Ax.noI]at hn
 |.iset ks,c,hn,_=>by simp[Ax.noI]at hn
 |.func fn fs cs,c,hn,h=>by simp only[Ax.noI,e9l]at hn;simp only[VRel]at h⊢;obtain⟨a,b,rfl,h1,h2⟩:=h;exact⟨a,b,rfl,VRels.noI fs hn.1 h1,VRels.noI cs hn.2 h2⟩
 |.iface t x,c,hn,h=>by simp only[Ax.noI]at hn;simp only[VRel]at h⊢;obtain⟨a,rfl,h1⟩:=h;exact⟨a,rfl,VRel.noI x hn h1⟩
 |.agg cs,c,hn,h=>by simp only[Ax.noI]at hn;simp only[VRel]at h⊢;obtain⟨a,rfl,h1⟩:=h;exact⟨a,rfl,VRels.noI cs hn h1⟩
 |.tuple cs,c,hn,h=>by simp only[Ax.noI]at hn;simp only[VRel]at h⊢;obtain⟨a,rfl,h1⟩:=h;exact⟨a,rfl,VRels.noI cs hn h1⟩
theorem VRels.noI:∀(vs:List AV) {cs:List Value},c63 vs=true→VRels I w ρ vs cs→VRels I' w ρ vs cs
 | [],cs,_,h=>by simpa[VRels]using h
 |v::vs,cs,hn,h=>by simp only[c63,e9l]at hn;simp only[VRels]at h⊢;obtain⟨c,aJ,rfl,h1,h2⟩:=h;exact⟨c,aJ,rfl,VRel.noI v hn.1 h1,VRels.noI vs hn.2 h2⟩
end
theorem VAt.noI:∀(vs:List AV) {b off:Nat},c63 vs=true→VAt I w ρ vs b off→VAt I' w ρ vs b off
 | [],b,off,_,h=>by simp[VAt]
 |v::vs,b,off,hn,h=>by simp only[c63,e9l]at hn;simp only[VAt]at h⊢;obtain⟨⟨c,hc,h1⟩,h2⟩:=h;exact⟨⟨c,hc,VRel.noI v hn.1 h1⟩,VAt.noI vs hn.2 h2⟩
theorem VRows.noI{k:Nat}:∀(rs:List (List AV)) {b off:Nat},rs.all c63=true→VRows I w k ρ rs b off→VRows I' w k ρ rs b off
 | [],b,off,_,h=>by simp[VRows]
 |r::rs,b,off,hn,h=>by simp only[List.all_cons,e9l]at hn;simp only[VRows]at h⊢;exact⟨h.1,VAt.noI r hn.1 h.2.1,VRows.noI rs hn.2 h.2.2⟩
theorem ORel.noI{G:GTab (List AV)}{m:Pl}(o:AObj)(hn:e2x o=true)(h:ORel G I w ρ m o):ORel G I' w ρ m o:=by
 cases o with
 |row k rows=>exact⟨h.1,h.2.1,h.2.2.1,VRows.noI rows hn h.2.2.2⟩
 |map ks vs bs bh=>simp only[e2x,e9l]at hn;obtain⟨es,h1,h2,h3,h4⟩:=h;exact⟨es,h1,VRels.noI ks hn.1 h2,VRels.noI vs hn.2 h3,h4⟩
 |siter s pos=>exact h
 |uset ks=>exact h
 |miter ks cG cT=>simp[e2x]at hn
 |yloop y F st=>simp[e2x]at hn
end
theorem a7e{H:a02}{b:Nat}{o:AObj}(h:b02 H b=some o):a01 H b=some o∧e2x o=true:=by
 unfold b02 at h;split at h
 case h_2=>cases h
 rename_i o' ho;rw[cond_eq_ite]at h;split at h
 case isFalse=>cases h
 rename_i hn;cases h;exact⟨ho,hn⟩
section
variable {E:Env}{I K:Nat→Prop}{ρ:PMap}{h hl:FHeap}{w:World}
theorem c0c{g:FuncId}{run:List AV→a02→Option (AV×a02)}(ac:b0d E g run)(aT:∀b o,hl b=some o→h b=some o)(r:HRel E.G I K ρ h w){args ap:List AV}{ak:List Value}{v v':AV}{H1:a02}
 (ha:VRels I w ρ args ak)(hf:a5i 0 false (a58 hl 0 12) args=some ap)(hr:run ap []=some (v,H1))(hn:noI v=true)(hv:a3i 0 false (a58 (b02 H1) 0 12) v=some v') :
 XOf E g ak w λen w'=>∃c I',en = .returned c∧(∀c,I c→I' c)∧Ext I K w w'∧HRel E.G I' K ρ h w'∧VRel I' w' ρ v' c:=by
 have rl:HRel E.G I K ρ hl w:=r.fewer aT;have hI:∀c,I c→a3n I ρ hl 0 c:=λc hc=>.inl hc;have h1:=a83 hI (a5j rl 12) args hf ha;rw[a7h]at h1;have ui:∀c,a3n I ρ hl 0 c→a3n I ρ h 0 c:=by
  rintro c (hc|⟨b,o,p,h0,hb,hp,he⟩)
  ·exact .inl hc
  ·exact .inr ⟨b,o,p,h0,aT b o hb,hp,he⟩
 have h2:VRels (a3n I ρ h 0) w noP ap ak:=VRels.mono ui (λ_ _=>rfl) ap (λ_ _ h=>h) h1;have mw:∀c,a3n I ρ h 0 c→c<w.heap.size:=by
  rintro c (hc|⟨b,o,p,_,_,hp,rfl⟩)
  ·exact r.imm c hc
  ·exact r.dom b p hp
 have pf:HRel E.G (a3n I ρ h 0) K noP (a01 []) w:=by
  refine⟨λb o hb=>by simp[a01]at hb,λb b' m m' hb=>by simp[a01]at hb,λb m hb=>by simp[noP]at hb,mw,r.kept,?_,λg cs hg=>⟨.inl (r.glob g cs hg).1,VAt.mono (λc hc=>.inl hc) (λ_ _=>rfl) cs (λ_ _ h=>h) rfl (r.glob g cs hg).2⟩⟩
  rintro c (hc|⟨b,o,p,_,hb,hp,rfl⟩)
  ·exact r.apart c hc
  ·obtain⟨q,hq,_,hk,_⟩:=r.live b o hb;rw[hp]at hq;cases hq;exact hk
 have ae:=ac ap [] v H1 hr (a3n I ρ h 0) K noP w ak pf (λ_ _=>rfl) h2;refine XOf.mono ae ?_
 rintro en w' ⟨c,I1,ρ1,rfl,aB,te⟩
 have keep:∀c,I c→w'.heap[c]?=w.heap[c]?:=λc hc=>aB.ext.keep c (.inl (.inl hc));have bJ:=aB.ext.size;have jP:∀b o p,b02 H1 b=some o→ρ1 b=some p→¬I1 p.blk∧¬K p.blk:=by intro b o p hb hp;obtain⟨q,hq,h3,h4,_⟩:=aB.rel.live b o (a7e hb).1;rw[hp]at hq;cases hq;exact⟨h3,h4⟩
 have b0m:HRel E.G I K ρ1 (b02 H1) w':=by
  refine⟨?_,?_,aB.rel.dom,λc hc=>by have:=r.imm c hc;omega,aB.rel.kept,r.apart,λg cs hg=>⟨(r.glob g cs hg).1,VAt.mono (λ_ h=>h) keep cs (λ_ _ h=>h) (keep _ (r.glob g cs hg).1) (r.glob g cs hg).2⟩⟩
  ·intro b o hb;obtain⟨cj,cN⟩:=a7e hb;obtain⟨q,hq,h3,h4,h5⟩:=aB.rel.live b o cj;exact⟨q,hq,λhc=>h3 (aB.imm _ (.inl hc)),h4,ORel.noI o cN h5⟩
  ·intro b b' m m' hb aL;obtain⟨o,ho⟩:=f0c.1 hb;obtain⟨o',dT⟩:=f0c.1 aL;exact aB.rel.inj b b' m m' (by rw[(a7e ho).1];rfl) (by rw[(a7e dT).1];rfl)
 have rp:=b0x (I':=a3n I ρ1 (b02 H1) 0) (λc hc=>.inl hc) (a5j b0m 12) v hv (VRel.noI (I':=I) v hn te);rw[a7h]at rp;refine⟨c,a3n I ρ1 (b02 H1) 0,rfl,λc hc=>.inl hc,⟨aB.ext.os,aB.ext.tape,aB.ext.output,bJ,λc hc=>aB.ext.keep c (hc.imp .inl id)⟩,?_,VRel.mono (λ_ h=>h) (λ_ _=>rfl) v' (λ_ _ h=>by simp[noP]at h) rp⟩;refine⟨?_,r.inj,λb m hb=>by have:=r.dom b m hb;omega,?_,aB.rel.kept,?_,λg cs hg=>⟨.inl (r.glob g cs hg).1,VAt.mono (λc hc=>.inl hc) keep cs (λ_ _ h=>h) (keep _ (r.glob g cs hg).1) (r.glob g cs hg).2⟩⟩
 ·intro b o hb;obtain⟨m,h3,h4,h5,h6⟩:=r.live b o hb;have dG:a3n I ρ h 0 m.blk:=.inr ⟨b,o,m,f0h _,hb,h3,rfl⟩;refine⟨m,h3,?_,h5,ORel.mono o (λc hc=>.inl hc) keep (λ_ _ h=>h) (aB.ext.keep _ (.inl dG)) h6⟩
  rintro(hc|⟨b',o',p,_,aL,hp,he⟩)
  ·exact h4 hc
  ·exact(jP b' o' p aL hp).1 (he▸aB.imm _ dG)
 ·rintro c (hc|⟨b',o',p,_,aL,hp,rfl⟩)
  ·have:=r.imm c hc;omega
  ·exact aB.rel.dom b' p hp
 ·rintro c (hc|⟨b',o',p,_,aL,hp,rfl⟩)
  ·exact r.apart c hc
  ·exact(jP b' o' p aL hp).2
theorem b3l{run:List AV→a02→Option (AV×a02)}{args:List AV}{H H':a02}{v':AV}{σ:List Nat}(ae:a93 run args H=some (v',H',σ)) :
 H'=H∧σ=List.range H.length∧∃ap v H1,a5i 0 false (a58 (a01 H) 0 12) args=some ap∧run ap []=some (v,H1)∧noI v=true∧a3i 0 false (a58 (b02 H1) 0 12) v=some v':=by
 unfold a93 at ae;split at ae
 case h_2=>cases ae
 rename_i ap h1;split at ae
 case h_2=>cases ae
 rename_i v H1 h2;rw[cond_eq_ite]at ae;split at ae
 case isFalse=>cases ae
 rename_i h3;split at ae
 case h_2=>cases ae
 rename_i v2 h4;cases ae;exact⟨rfl,rfl,ap,v,H1,h1,h2,h3,h4⟩
theorem c6b{g:FuncId}{run:List AV→a02→Option (AV×a02)}(ac:b0d E g run){args:List AV}{ak:List Value}{H H':a02}{v:AV}{σ:List Nat}
 (ae:a93 run args H=some (v,H',σ))(r:HRel E.G I K ρ (a01 H) w)(hn:NRel ρ H.length)(ha:VRels I w ρ args ak) :
 XOf E g ak w λen w'=>∃c I' ρ',en = .returned c∧Ret E I K ρ H.length w I' ρ' H' w'∧VRel I' w' ρ' v c:=by
 obtain⟨rfl,-,ap,v0,H1,h1,h2,h3,h4⟩:=b3l ae;refine XOf.mono (c0c ac (λ_ _ h=>h) r ha h1 h2 h3 h4) ?_
 rintro en w' ⟨c,I',rfl,hI,b9,bA,hv⟩
 exact⟨c,I',ρ,rfl,⟨hI,λ_ _=>rfl,b9,bA,hn,f1u _⟩,hv⟩
end
end Go.Ax
/- AxSeq: operations in a row that draw no order. -/
namespace Go.Ax
section
variable {E:Env}
theorem Now.call{e:Entry}{N:Nat}{F:Frm}{H H':a02}{I I':Nat→Prop}{ρ ρ':PMap}{a:Act}{w w':World}(h:Now E e N F H I ρ a w)(r:Ret E I e.K ρ H.length w I' ρ' H' w')
 {d:Option Tmp}{v:AV}{c:Value}(hd:a6t N d=true)(hv:VRel I' w' ρ' v c):Now E e N (a3l F d v) H' I' ρ' (a.put d c) w':=by
 have hρ:∀b m,ρ b=some m→ρ' b=some m:=by
  intro b m hb;have:b<H.length:=by
   rcases f4i b H.length with h'|h'
   ·exact h'
   ·rw[h.nrel b h']at hb;cases hb
  rw[r.map b this];exact hb
 refine⟨λc hc=>r.imm c (h.imm c hc),λb hb=>?_,h.ext.trans h.imm r.ext,r.rel,r.nrel,?_,?_,?_⟩
 ·rw[r.map b (by have:=h.low;omega)];exact h.map b hb
 ·exact(FRel.mono h.frm (λv c hv=>VRel.mono r.imm (λc hc=>r.ext.keep c (.inl hc)) v hρ hv)).set (by intro s hs;rw[hs]at hd;simpa[a6t,f2p]using hd) hv
 ·have:=h.low;have:=r.low;omega
 ·rw[a30];exact h.marks.mono r.imm (λc hc=>r.ext.keep c (.inl hc))
def a35(E:Env)(call:FuncId→List AV→a02→Option (AV×a02)):Prop:=∀g,b0d E g (call g)
theorem c8b(ok:EnvOk E){ro:Option Nat}{call:FuncId→List AV→a02→Option (AV×a02)}(ae:a35 E call){ah:Bool}{e:Entry}{N:Nat}{F:Frm}{H H':a02}{I:Nat→Prop}{ρ:PMap}{a:Act}{w:World}
 (h:Now E e N F H I ρ a w){o:Oper}{v:AV}{l:LogE}(hs:a0u E ah call F H o.op=some (v,H',l))(hd:a6t N o.dst=true){K:Act→World→Prop}{Q:Exit→Act→World→Prop}
 (hK:∀I' ρ' a' w',Now E e N (a3l F o.dst v) H' I' ρ' a' w'→K a' w'):o.wpIn (wf ro) 0 E.P a w K Q:=by
 unfold a0u at hs;split at hs
 ·rename_i f args oA dA;split at hs
  case h_2=>cases hs
  rename_i v' H1 σ aS;cases hs;refine a7q (by rw[dA];intro c hc;cases hc) ?_;unfold a09 at aS;split at aS
  case h_3=>cases aS
  case h_2=>
   rename_i b iQ;have hf:=b35 h.rel h.frm f;rw[iQ]at hf;simp only[VRel]at hf;obtain⟨m,hm,ei⟩:=hf;rw[b6t dA ei];split at aS
   case h_2=>cases aS
   rename_i mu H2 σ2 dW;rw[cond_eq_ite]at aS;split at aS
   case isTrue=>cases aS
   cases aS;have aC:VRels I w ρ (.yfn b::args.toList.map (opv E F)) (.func (.yield m.blk) #[] #[]::(args.map a.eval).toList):=by simp only[VRels];refine⟨_,_,rfl,by simp only[VRel];exact⟨m,hm,rfl⟩,?_⟩;rw[f5r];exact a51 (b35 h.rel h.frm) args.toList
   have hc:=b17 (ae yId) dW h.rel h.nrel aC;rw[e2b]at hc;obtain⟨l,vs,fn,tmps,asg,body,he,hy,hr⟩:=hc;simp only[List.cons.injEq,Value.func.injEq,Fn.yield.injEq,and_true]at he;obtain⟨hl,rfl⟩:=he;rw[hl];have bq:(args.map a.eval).toList.toArray=args.map a.eval:=by apply f6r;simp
   rw[bq]at hy;rw[hy];refine b5j (hr.mono ?_)
   rintro en w' ⟨c,I',ρ',rfl,aB,dc⟩
   exact hK I' ρ' _ _ (h.call aB hd dc)
  rename_i g fs cs iQ;have hf:=b35 h.rel h.frm f;rw[iQ]at hf;simp only[VRel]at hf;obtain⟨cz,aJ,ei,iR,dY⟩:=hf;have aC:VRels I w ρ (fs++args.toList.map (opv E F)++cs) (cz++args.map a.eval++aJ).toList:=by simp only[Array.toList_append,f5r];exact VRels.append (VRels.append iR (a51 (b35 h.rel h.frm) args.toList)) dY
  rw[a9y dA ei];rw[cond_eq_ite]at aS;split at aS
  ·rename_i b9;rw[cond_eq_ite]at aS;split at aS
   ·rename_i hg;rw[a3w ok hg];have hc:=c6b (ae g) aS h.rel h.nrel aC;obtain⟨i,hi⟩:=f0c.1 hg;rw[b0b (c6m ok hi)]at hc;have bq:(cz++args.map a.eval++aJ).toList.toArray=cz++args.map a.eval++aJ:=by apply f6r;simp
    rw[bq]at hc;refine a8b (Calls.mono hc ?_)
    rintro en w' ⟨c,I',ρ',rfl,aB,dc⟩
    exact hK I' ρ' _ _ (h.call aB hd dc)
   rename_i bv;split at aS
   case h_2=>cases aS
   rename_i mu kE;cases aS;obtain⟨c,ac,dc⟩:=b1r (E:=E) (w:=w) ok b9 (by simpa using bv) kE aC;have bq:(cz++args.map a.eval++aJ).toList.toArray=cz++args.map a.eval++aJ:=by apply f6r;simp
   rw[bq]at ac;rw[ac,Oper.uponIn_value];exact hK I ρ _ _ (h.call ⟨λ_ h=>h,λ_ _=>rfl,Ext.refl _ _ _,h.rel,h.nrel,f1u _⟩ hd dc)
  ·rw[cond_eq_ite]at aS;split at aS
   case isFalse=>cases aS
   rename_i hg;split at aS
   case h_2=>cases aS
   rename_i mu H2 σ2 dW;rw[cond_eq_ite]at aS;split at aS
   case isTrue=>cases aS
   cases aS;rw[a3w ok hg];have hc:=b17 (ae g) dW h.rel h.nrel aC;obtain⟨i,hi⟩:=f0c.1 hg;rw[b0b (c6m ok hi)]at hc;have bq:(cz++args.map a.eval++aJ).toList.toArray=cz++args.map a.eval++aJ:=by apply f6r;simp
   rw[bq]at hc;refine a8b (Calls.mono hc ?_)
   rintro en w' ⟨c,I',ρ',rfl,aB,dc⟩
   exact hK I' ρ' _ _ (h.call aB hd dc)
 ·split at hs
  case h_2=>cases hs
  rename_i v' eff ha;rw[cond_eq_ite]at hs;split at hs
  case isFalse=>cases hs
  cases hs;obtain⟨x,w',c,ρ',ac,hx,aj⟩:=h.op ok ha hd;refine a7q (b4t ha) ?_;rw[ac];rcases hx with rfl|⟨rfl,rfl⟩
  ·rw[Oper.uponIn_value];exact hK I ρ' _ _ aj
  ·rw[Oper.uponIn_skip];exact hK I ρ' _ _ aj
theorem b5g{ro:Option Nat}{P:Program}{am:Array Oper}{Q:Exit→Act→World→Prop}{i:Nat}{af:List Nat}{a:Act}{w:World}{o:Oper}(ho:am[i]?=some o)
 (hw:Region.wanted o (yielded am a.tmps)=true)(h:o.wpIn (wf ro) 0 P a w (wpOpsIn (wf ro) 0 P am Q af) Q):wpOpsIn (wf ro) 0 P am Q (i::af) a w:=by
 simp only[wpOpsIn,ho,hw,f4b];exact h
theorem c5h{ro:Option Nat}{P:Program}{am:Array Oper}{Q:Exit→Act→World→Prop}{i:Nat}{af:List Nat}{a:Act}{w:World}{o:Oper}(ho:am[i]?=some o)
 (hw:Region.wanted o (yielded am a.tmps)=false)(h:wpOpsIn (wf ro) 0 P am Q af (a.put o.dst undef) w):wpOpsIn (wf ro) 0 P am Q (i::af) a w:=by
 simp only[wpOpsIn,ho,hw,f3l,f7c];exact⟨λf _=>d8o ro f,h⟩
theorem c5g{e:Entry}{N:Nat}{F:Frm}{H:a02}{I:Nat→Prop}{ρ:PMap}{a:Act}{w:World}(h:Now E e N F H I ρ a w){am:Array Oper}{j d:Nat}(hg:a2y am.toList j=some d) :
 (∀b,a38 F d = .bool b→yielded am a.tmps j=some b)∧(a38 F d = .tuple []→yielded am a.tmps j=none):=by
 have hd:(am[j]?).bind (·.dst)=some d:=by simpa[a2y]using hg
 have hv:=h.frm.2 d;have aG:∀c,a.tmps.getD d undef=c→c≠undef→a.tmps[d]?=some c:=by
  intro c hc au;rw[f2y]at hc;cases hx:a.tmps[d]? with
  |none=>rw[hx]at hc;exact absurd hc.symm au
  |some x=>rw[hx]at hc;simpa using hc
 refine⟨λb hb=>?_,λhb=>?_⟩
 ·rw[hb]at hv;simp only[VRel]at hv;have:=aG _ hv (by simp[undef]);simp[yielded,hd,this]
 ·rw[hb]at hv;simp only[VRel]at hv;obtain⟨cs,hc,dY⟩:=hv;unfold yielded;rw[hd];simp only[f5m];rw[f2y]at hc;cases hx:a.tmps[d]? with
  |none=>rfl
  |some x=>rw[hx]at hc;simp only[f3i]at hc;rw[hc]
theorem b0k(ok:EnvOk E){ro:Option Nat}{call:FuncId→List AV→a02→Option (AV×a02)}(ae:a35 E call){e:Entry}{N:Nat}{am:Array Oper}{R:Type}{k:Frm→a02→Option R}{r:R}
 {Q:Exit→Act→World→Prop}(hQ:∀F H I ρ a w,Now E e N F H I ρ a w→k F H=some r→Q .normal a w) :
 ∀(af:List Oper) (s:Nat) (log:List LogE) (F:Frm) (H:a02) (I:Nat→Prop) (ρ:PMap) (a:Act) (w:World),af=am.toList.drop s→Now E e N F H I ρ a w→
  a2e E false N call am.toList af log F H k=some r→wpOpsIn (wf ro) 0 E.P am Q (List.range' s af.length) a w
 | [],s,log,F,H,I,ρ,a,w,_,aj,ac=>by simp only[a2e,Bool.not_false,Bool.true_or,f2m]at ac;simp only[f0g,List.range'_zero,wpOpsIn];exact hQ F H I ρ a w aj ac
 |o::af,s,log,F,H,I,ρ,a,w,cE,aj,ac=>by
  have ho:am[s]?=some o:=by
   have:(am.toList.drop s)[0]?=some o:=by rw[←cE];rfl
   rw[f6i]at this;simpa using this
  have eV:af=am.toList.drop (s+1):=by
   have:(am.toList.drop s).drop 1=af:=by rw[←cE];rfl
   rw[List.drop_drop]at this;exact this.symm
  rw[e9m,List.range'_succ];unfold a2e at ac;rw[cond_eq_ite]at ac;split at ac
  case isFalse=>cases ac
  rename_i hd;have ih:=λlog F H I ρ a w aj ac=>b0k (ro:=ro) ok ae hQ af (s+1) log F H I ρ a w eV aj ac;have exec:∀F0,Now E e N F0 H I ρ a w→(match a0u E false call F0 H o.op with
   |some (v,H',l)=>a2e E false N call am.toList af (l::log) (a3l F0 o.dst v) H' k
   |none=>none)=some r→Region.wanted o (yielded am a.tmps)=true→wpOpsIn (wf ro) 0 E.P am Q (s::List.range' (s+1) af.length) a w:=by
   intro F0 bY hr hw;split at hr
   case h_2=>cases hr
   rename_i v H' l hs;exact b5g ho hw (c8b ok ae bY hs hd (λI' ρ' a' w' gu=>ih _ _ _ I' ρ' a' w' gu hr))
  have skip:∀F0 fe,Now E e N F0 H I ρ a w→a2e E false N call am.toList af fe (a3l F0 o.dst (.tuple [])) H k=some r→Region.wanted o (yielded am a.tmps)=false→
   wpOpsIn (wf ro) 0 E.P am Q (s::List.range' (s+1) af.length) a w:=by
   intro F0 fe bY hr hw;exact c5h ho hw (ih _ _ _ I ρ _ w (bY.skip hd) hr)
  split at ac
  ·rename_i hg;exact exec F aj ac (by simp[Region.wanted,hg])
  ·rename_i j bj hg;split at ac
   case h_1=>cases ac
   rename_i d nw;obtain⟨sY,gH⟩:=c5g aj nw;split at ac
   ·rename_i b hb;have kB:=sY b hb;have jb:=aj.frm.2 d;rw[hb]at jb;have hw:Region.wanted o (yielded am a.tmps)=(b==bj):=by simp[Region.wanted,hg,kB]
    cases b
    ·simp only[f2z]at ac;have bY:=aj.refine (d:=d) (v:=.bool false) jb;cases bj
     ·simp only[f2z]at ac;exact exec _ bY ac (by rw[hw];rfl)
     ·simp only[f2m]at ac;exact skip _ _ bY ac (by rw[hw];rfl)
    ·simp only[f2m]at ac;have bY:=aj.refine (d:=d) (v:=.bool true) jb;cases bj
     ·simp only[f2z]at ac;exact skip _ _ bY ac (by rw[hw];rfl)
     ·simp only[f2m]at ac;exact exec _ bY ac (by rw[hw];rfl)
   ·rename_i hb;have kB:=gH hb;exact skip F _ aj ac (by simp[Region.wanted,hg,kB])
   ·cases ac
end
end Go.Ax
/- AxGc: what may be forgotten: slots behind a region, blocks at a loop's head. -/
namespace Go.Ax
section
variable {E:Env}{e:Entry}{N:Nat}{F:Frm}{H:a02}{I:Nat→Prop}{ρ:PMap}{a:Act}{w:World}
theorem b3y(F:Frm):∀(keep:List Nat) (s:Nat),a38 (a1i keep F) s=if keep.contains s then a38 F s else .junk
 | [],s=>by simp[a1i,a38]
 |t::keep,s=>by
  have ih:=b3y F keep s;simp only[a1i]at ih⊢;simp only[e12,a38,d2w,ih];by_cases gr:t=s
  ·subst gr;simp
  ·have:(s==t)=false:=by simpa using λh=>gr h.symm
   have hc:(t::keep).contains s=keep.contains s:=by rw[List.contains_cons,this,Bool.false_or]
   rw[hc,f3k.2 gr];rfl
theorem Now.keep(h:Now E e N F H I ρ a w)(keep:List Nat):Now E e N (a1i keep F) H I ρ a w:=
 { h with frm:=⟨h.frm.1,λs=>by
  rw[b3y];split
  ·exact h.frm.2 s
  ·simp[VRel]⟩ }
theorem c4h(π:Nat→Option Nat):∀(F:Frm) (s:Nat),a38 (b50 π F) s=ren π (a38 F s)
 | [],s=>by simp[b50,a38,ren]
 |(t,v)::F,s=>by have ih:=c4h π F s;simp only[b50]at ih⊢;simp only[e12,a38,d2w,ih];cases h:(t==s)<;>simp
theorem Now.gc(h:Now E e N F H I ρ a w){σ:List Nat}(hn:σ.Nodup)(bg:∀b∈σ,e.m≤b) :
 ∃ρ',Now E e N (b50 (b8a e.m σ) F) (gcH e.m σ H) I ρ' a w:=by
 have ai:(gcH e.m σ H).length=e.m+σ.length:=by have:=h.low;simp[gcH,a1k];omega
 have hπ:∀b b' m,b8a e.m σ b=some b'→ρ b=some m→(if b'<e.m then ρ b' else(σ[b'-e.m]?).bind ρ)=some m:=by
  intro b b' m hp hb;simp only[b8a]at hp;rw[cond_eq_ite]at hp;split at hp
  ·rename_i ag;cases hp;rw[f1r (by simpa[f2p]using ag)];exact hb
  ·obtain⟨j,hj,rfl⟩:=a05 hp;rw[f0j (by omega),f5t,a1p hj];exact hb
 refine⟨λb=>if b<e.m then ρ b else(σ[b-e.m]?).bind ρ,h.imm,λb hb=>?_,h.ext,?_,?_,?_,?_,h.marks⟩
 ·show(if b<e.m then ρ b else _)=_;rw[f1r hb];exact h.map b hb
 ·refine h.rel.rename (π:=b8a e.m σ) hπ ?_ ?_
  ·intro b' o' ho;simp only[a01,gcH]at ho;have cJ:(H.take e.m).length=e.m:=by have:=h.low;simp;omega
   rcases f4i b' e.m with hb|hb
   ·rw[f0i (by rw[c11,cJ];exact hb),f0d,f4r,f1r hb]at ho;cases hx:H[b']? with
    |none=>rw[hx]at ho;simp at ho
    |some ob=>rw[hx]at ho;simp only[f0e,f3n]at ho;obtain⟨o,rfl,rfl⟩:=a05 ho;refine⟨b',o,by simp[a01,hx],?_,rfl⟩;simp only[b8a];rw[cond_eq_ite,f1r (by simpa[f2p]using hb)]
   ·rw[f1n (by rw[c11,cJ];exact hb)]at ho;simp only[c11,cJ,a1k,f0d]at ho;cases hx:σ[b'-e.m]? with
    |none=>rw[hx]at ho;simp at ho
    |some b=>rw[hx]at ho;simp only[f0e,f3n]at ho;obtain⟨o,d7,rfl⟩:=a05 ho;refine⟨b,o,d7,?_,rfl⟩;have bE:=bg b (c10 hx);simp only[b8a];rw[cond_eq_ite,f0j (by simpa[f2p]using bE),a44 hn hx];simp only[f0e,Option.some.injEq];omega
  ·intro b m hb;split at hb
   ·exact h.rel.dom b m hb
   ·cases hx:σ[b-e.m]? with
    |none=>rw[hx]at hb;simp at hb
    |some b'=>rw[hx]at hb;exact h.rel.dom b' m hb
 ·intro b hb;rw[ai]at hb;show(if b<e.m then ρ b else _)=_;rw[f0j (by omega),f2n (by omega)];rfl
 ·refine⟨h.frm.1,λs=>?_⟩;rw[c4h];exact VRel.ren hπ _ (h.frm.2 s)
 ·rw[ai];omega
theorem e0s{H:a02}{m b:Nat}{o':AObj}(hb:a01 (c2v m H) b=some o'):∃o,b<m∧a01 H b=some o∧o'=c0w m (a58 (a01 H) m 12) o:=by
 simp only[a01,c2v,f0d,f4r]at hb;split at hb
 case isFalse=>simp at hb
 rename_i ag;cases hx:H[b]? with
 |none=>rw[hx]at hb;simp at hb
 |some ob=>rw[hx]at hb;simp only[f0e,f3n]at hb;obtain⟨o,rfl,rfl⟩:=a05 hb;exact⟨o,ag,by simp[a01,hx],rfl⟩
theorem c4i(m:Nat)(H:a02):∀(F:Frm) (s:Nat),a38 (c2w m H F) s = .junk∨a38 (c2w m H F) s=e34 m H (a38 F s)
 | [],s=>.inl (by simp[c2w,a38])
 |(t,v)::F,s=>by
  have ih:=c4i m H F s;simp only[c2w]at ih⊢;simp only[e12,a38,d2w];cases h:(t==s)
  ·simpa using ih
  ·right;simp
theorem Now.frz(h:Now E e N F H I ρ a w)(j:Nat):∃I' ρ',Now E e N (c2w (e.m+j) H F) (c2v (e.m+j) H) I' ρ' a w:=by
 have ai:(c2v (e.m+j) H).length=min (e.m+j) H.length:=by simp[c2v]
 have bg:∀b o',a01 (c2v (e.m+j) H) b=some o'→∃o,b<e.m+j∧a01 H b=some o∧o'=c0w (e.m+j) (a58 (a01 H) (e.m+j) 12) o:=λb o' hb=>e0s hb;refine⟨a3n I ρ (a01 H) (e.m+j),ρ.below (e.m+j) true,λc hc=>.inl (h.imm c hc),λb hb=>?_,h.ext,?_,?_,⟨h.frm.1,λs=>?_⟩,by rw[ai];have:=h.low;omega,h.marks.mono (λ_ h=>.inl h) (λ_ _=>rfl)⟩
 ·rw[←h.map b hb];have:b<e.m+j:=by omega
  simp[PMap.below,this]
 ·exact c2x h.rel bg
 ·intro b hb;rw[ai]at hb;simp only[PMap.below];split
  ·exact h.nrel b (by omega)
  ·rfl
 ·rcases c4i (e.m+j) H F s with h1|h1
  ·rw[h1];simp[VRel]
  ·rw[h1];simp only[e34];cases hv:a3i (e.m+j) true (a58 (a01 H) (e.m+j) 12) (a38 F s)with
   |none=>simp[VRel]
   |some v'=>exact(a9u (h':=λ_=>none) h.rel hv (h.frm.2 s) (λ_ _ h=>by cases h)).2
theorem Now.drew(h:Now E e N F H I ρ a w):Now E e N F H I ρ a { w with drawn:=w.drawn+1 }:=by
 have s:SameMem w { w with drawn:=w.drawn+1 }:=⟨rfl,rfl,rfl,rfl⟩
 exact⟨h.imm,h.map,h.ext.trans h.imm (s.ext I e.K),h.rel.same s,h.nrel,FRel.mono h.frm (λv c hv=>VRel.mono (w:=w) (w':={ w with drawn:=w.drawn+1 }) (λ_ h=>h) (λ_ _=>rfl) v (λ_ _ h=>h) hv),h.low,h.marks⟩
end
/-! ### a loop that is counted -/
theorem b99{ro:Option Nat}{P:Program}{c:Code}{Q:Exit→Act→World→Prop}(Inv:Nat→Act→World→Prop)
 (round:∀n a w,Inv (n+1) a w→c.wpIn (wf ro) 0 P (Exit.then (Inv n) Q) a w)(zero:∀a w,¬Inv 0 a w){n:Nat}{a:Act}{w:World}(h:Inv n a w):(Code.loop c).wpIn (wf ro) 0 P Q a w:=by
 have key:∀n a w,Inv n a w→Code.roundsIn (wf ro) 0 P c Q n a w:=by
  intro n
  induction n with
  |zero=>intro a w h;exact absurd h (zero a w)
  |succ n ih=>
   intro a w hI;rw[roundsIn_succ];refine wpIn_mono (round n a w hI) ?_;intro e a w hq;cases e with
   |normal=>exact ih a w hq
   |_=>exact hq
 exact wpIn_loop_rounds n (key n a w h)
end Go.Ax
/- AxLoc: what an operation looks at: the slots of its operands, the blocks that its operands name. -/
namespace Go.Ax
section
variable {E:Env}{n:Nat}{h h':FHeap}
theorem a7i{x:AV}(k:Nat)(hh:∀b∈a0i x,h b=h' b):a1z h k x=a1z h' k x:=by cases x<;>simp only[a0i,f1s,forall_eq]at hh<;>simp only[a1z];rw[hh]
theorem c7d{x:AV}(t:TypeId)(hh:∀b∈a0i x,h b=h' b):b8v E h t x=b8v E h' t x:=by unfold b8v;generalize E.und t=u;cases x<;>simp only[a0i,f1s,forall_eq]at hh<;>(rcases u with _|d;· rfl)<;>cases d<;>first|rfl|(simp only[hh];done)
theorem c3c{x:AV}(t:TypeId)(hh:∀b∈a0i x,h b=h' b):a5e E h t x=a5e E h' t x:=by cases x<;>simp only[a0i,f1s,forall_eq]at hh<;>simp only[a5e];rw[hh]
theorem c1c{p x:AV}(t:TypeId)(hh:∀b∈a0i p,h b=h' b):a7n E h t p x=a7n E h' t p x:=by cases p<;>simp only[a0i,f1s,forall_eq]at hh<;>simp only[a7n];rw[hh]
theorem c1d{x:AV}(t:TypeId)(lo hi mx:Option AV)(hh:∀b∈a0i x,h b=h' b):a5b E h t x lo hi mx=a5b E h' t x lo hi mx:=by unfold a5b;generalize E.und t=u;cases x<;>simp only[a0i,f1s,forall_eq]at hh<;>(rcases u with _|d;· rfl)<;>cases d<;>first|rfl|(simp only[hh];done)
theorem b1z{x:AV}(t:TypeId)(i:AV)(hh:∀b∈a0i x,h b=h' b):a0s E h t x i=a0s E h' t x i:=by unfold a0s;generalize E.und t=u;cases x<;>simp only[a0i,f1s,forall_eq]at hh<;>(rcases u with _|d;· rfl)<;>cases d<;>first|rfl|(simp only[hh];done)
theorem c1i{x:AV}(hh:∀b∈a0i x,h b=h' b):b74 h x=b74 h' x:=by cases x<;>simp only[a0i,f1s,forall_eq]at hh<;>simp only[b74];rw[hh]
theorem b8u{x:AV}(t:TypeId)(k:AV)(ok:Bool)(hh:∀b∈a0i x,h b=h' b):a7j E h t x k ok=a7j E h' t x k ok:=by simp only[a7j,c1i hh]
theorem a88{x:AV}(t:TypeId)(k:AV)(hh:∀b∈a0i x,h b=h' b):b1t E h t x k=b1t E h' t x k:=by unfold b1t;generalize E.und t=u;cases x<;>simp only[a0i,f1s,forall_eq]at hh<;>(rcases u with _|d;· rfl)<;>cases d<;>first|rfl|(simp only[hh];done)
theorem b1a{x:AV}(s v:AV)(hh:∀b∈a0i x,h b=h' b):a4v h x s v=a4v h' x s v:=by
 unfold a4v;split
 ·rw[hh _ (by simp[a0i])]
 ·rfl
theorem b9a{x:AV}(hh:∀b∈a0i x,h b=h' b):b5i h x=b5i h' x:=by cases x<;>simp only[a0i,f1s,forall_eq]at hh<;>simp only[b5i];rw[hh]
theorem c1k{x:AV}(t:TypeId)(k:AV)(ok:Bool)(hh:∀b∈a0i x,h b=h' b):b4u E h t x k ok=b4u E h' t x k ok:=by simp only[b4u,b9a hh]
theorem b4q{x:AV}(t:TypeId)(k v:AV)(hh:∀b∈a0i x,h b=h' b):b5c E h t x k v=b5c E h' t x k v:=by
 unfold b5c;split
 ·rw[hh _ (by simp[a0i])]
 ·rfl
theorem c3e{x:AV}(t:TypeId)(k:AV)(hh:∀b∈a0i x,h b=h' b):c7g E h t x k=c7g E h' t x k:=by
 unfold c7g;split
 ·rw[hh _ (by simp[a0i])]
 ·rfl
theorem b90{x:AV}(hh:∀b∈a0i x,h b=h' b):b1b h x=b1b h' x:=by
 unfold b1b;split
 ·rw[hh _ (by simp[a0i])]
 ·rfl
theorem c3b{x:AV}(s:Bool)(hh:∀b∈a0i x,h b=h' b):c1h h x s=c1h h' x s:=by
 unfold c1h;split
 ·rw[hh _ (by simp[a0i])]
 ·rfl
theorem c1l{x:AV}(s d:TypeId)(hh:∀b∈a0i x,h b=h' b):a6v E h s d x=a6v E h' s d x:=by
 have key:=λk=>a7i k hh;unfold a6v;split
 ·rfl
 ·rw[key]
 ·rfl
theorem b92{s x:AV}(st xt:TypeId)(hs:∀b∈a0i s,h b=h' b)(hx:∀b∈a0i x,h b=h' b):a4k E h n st xt s x=a4k E h' n st xt s x:=by cases s<;>simp only[a0i,f1s,forall_eq]at hs<;>simp only[a4k,a7i _ hx];rw[hs]
theorem c3f{d x:AV}(dt:TypeId)(hs:∀b∈a0i d,h b=h' b)(hx:∀b∈a0i x,h b=h' b):c7h E h dt d x=c7h E h' dt d x:=by cases d<;>simp only[a0i,f1s,forall_eq]at hs<;>simp only[c7h,a7i _ hx];rw[hs]
theorem c1m{x:AV}(t:TypeId)(hh:∀b∈a0i x,h b=h' b):b75 E h t x=b75 E h' t x:=by unfold b75;generalize E.und t=u;cases x<;>simp only[a0i,f1s,forall_eq]at hh<;>(rcases u with _|d;· rfl)<;>cases d<;>first|rfl|(simp only[hh];done)
theorem c7j(b:Builtin)(ts:List TypeId)(args:List AV)(hh:∀b∈args.flatMap a0i,h b=h' b):d73 E n h b ts args=d73 E n h' b ts args:=by
 unfold d73;split
 ·rw[c7d _ (λb hb=>hh b (by simpa using hb))]
 ·rfl
 ·rw[b92 _ _ (λb hb=>hh b (by simp[hb])) (λb hb=>hh b (by simp[hb]))]
 ·rw[c3f _ (λb hb=>hh b (by simp[hb])) (λb hb=>hh b (by simp[hb]))]
 ·rw[c1m _ (λb hb=>hh b (by simpa using hb))]
 ·rw[c3e _ _ (λb hb=>hh b (by simp[hb]))]
 ·rfl
 ·rfl
 ·rfl
theorem d2c{op:Op}{v:Operand→AV}(hh:∀b∈a89 op v,h b=h' b):aop E n h op v=aop E n h' op v:=by
 cases op<;>simp only[a89]at hh<;>simp only[aop]
 case load=>rw[c3c _ hh]
 case store=>rw[c1c _ hh]
 case convert=>rw[c1l _ _ hh]
 case slice=>rw[c1d _ _ _ _ hh]
 case indexAddr=>rw[b1z _ _ hh]
 case lookup=>rw[b8u _ _ _ hh,c1k _ _ _ hh]
 case mapUpdate=>simp only[a2o,a88 _ _ hh,b4q _ _ _ hh]
 case insert=>simp only[a2o,a88 _ _ hh,b4q _ _ _ hh]
 case mapEntry=>simp only[b08,a88 _ _ hh]
 case entryStore=>rw[b1a _ _ hh]
 case next=>rw[c3b _ hh]
 case entry=>rw[b90 hh]
 case call c=>
  obtain⟨callee,args,ts⟩:=c;cases callee with
  |builtin b=>simp only at hh⊢;exact c7j _ _ _ (by simpa[List.flatMap_map]using hh)
  |_=>rfl
theorem d2d{op:Op}{v v':Operand→AV}(hv:∀x∈op.operands,v x=v' x):aop E n h op v=aop E n h op v':=by
 have jO:∀ps:Array (Nat×Operand),(∀x∈(ps.toList.map (·.2)).toArray,v x=v' x)→(ps.toList.map λp=>(p.1,v p.2))=(ps.toList.map λp=>(p.1,v' p.2)):=λps hp=>f3h λp hm=>by rw[hp p.2 (by simp only[List.mem_toArray,f4l];exact⟨p,hm,rfl⟩)]
 cases op<;>simp only[Op.operands]at hv<;>simp only[aop]
 case build t ps=>rw[jO ps hv]
 case buildSlice t n ps=>rw[jO ps hv]
 case makeFunc fn first fG=>rw[f3h (l:=first.toList) λx hx=>hv x (by simp only[Array.mem_append];exact .inl (by simpa using hx)),f3h (l:=fG.toList) λx hx=>hv x (by simp only[Array.mem_append];exact .inr (by simpa using hx))]
 case call c=>
  obtain⟨callee,args,ts⟩:=c;cases callee with
  |builtin b=>simp only;rw[f3h (l:=args.toList) λx hx=>hv x (by simp only[Call.operands];simp;simpa using hx)]
  |_=>rfl
 case makeMap t r=>cases r<;>simp_all
 case slice t x lo hi mx=>cases lo<;>cases hi<;>cases mx<;>simp_all
 all_goals (first|rfl|(simp_all;done))
end
end Go.Ax
/- AxOrd: operations in any order that their edges allow: what the executed ones amount to, in text order. -/
namespace Go.Ax
/-! ### lists that grow at the front, numbered from the back -/
section
variable {R V:Type}
def nth:List R→Nat→Option R
 | [],_=>none
 |r::af,j=>if j=af.length then some r else nth af j
def pre:List R→Nat→List R
 | [],_=>[]
 |_::af,i=>if i=af.length then af else pre af i
theorem b37:∀{l:List R} {i:Nat} {r:R},nth l i=some r→i<l.length
 | [],i,r,h=>by simp[nth]at h
 |a::af,i,r,h=>by
  unfold nth at h;split at h
  ·simp;omega
  ·have:=b37 h;simp;omega
theorem c42:∀{l:List R} {i:Nat},i<l.length→∃r,nth l i=some r
 | [],i,h=>by simp at h
 |a::af,i,h=>by
  unfold nth;split
  ·exact⟨a,rfl⟩
  ·exact c42 (by simp at h;omega)
theorem b25{a:R}{l:List R}{i:Nat}{r:R}(h:nth l i=some r):nth (a::l) i=some r:=by have:=b37 h;unfold nth;rw[f0j (by omega)];exact h
theorem b7x(a:R)(l:List R):nth (a::l) l.length=some a:=by simp[nth]
def gL(o:R→Nat→Option V)(g0:Nat→V)(S:Nat→Bool):List R→Nat→V
 | []=>g0
 |r::af=>if S af.length then λs=>(o r s).getD (gL o g0 S af s)else gL o g0 S af
def a48:Nat→Bool:=λ_=>true
def b9x(S:Nat→Bool)(i:Nat):Nat→Bool:=λj=>j==i||S j
variable {o:R→Nat→Option V}{g0:Nat→V}{S:Nat→Bool}
theorem c4k{s:Nat}:∀{l:List R},(∀j r',nth l j=some r'→(o r' s).isSome→S j=true)→gL o g0 S l s=gL o g0 a48 l s
 | [],_=>rfl
 |a::af,h=>by
  have ih:=c4k (l:=af) (λj r' hj=>h j r' (b25 hj));simp only[gL,a48];cases ha:o a s with
  |none=>split<;>simp[ha,ih]
  |some v=>rw[h _ a (b7x a af) (by simp[ha])];simp[ha]
theorem e0q{i s:Nat}{r:R}:∀{l:List R},nth l i=some r→(∀j r',nth l j=some r'→(o r' s).isSome→(j<i→S j=true)∧(i≤j→S j=false))→
 gL o g0 S l s=gL o g0 a48 (pre l i) s
 | [],h,_=>by simp[nth]at h
 |a::af,h,hs=>by
  have j8:i≤af.length→gL o g0 S (a::af) s=gL o g0 S af s:=by
   intro hi;simp only[gL];split
   ·rename_i hS;cases ha:o a s with
    |none=>simp[ha]
    |some v=>rw[(hs _ a (b7x a af) (by simp[ha])).2 hi]at hS;cases hS
   ·rfl
  unfold nth at h;split at h
  ·rename_i hi;subst hi;rw[j8 (f1u _)];simp only[pre,f4b];exact c4k (λj r' hj ho=>(hs j r' (b25 hj) ho).1 (b37 hj))
  ·rename_i hi;have:=b37 h;rw[j8 (by omega)];simp only[pre,f0j hi];exact e0q h (λj r' hj ho=>hs j r' (b25 hj) ho)
theorem b8d{S':Nat→Bool}:∀{l:List R},(∀j,j<l.length→S j=S' j)→gL o g0 S l=gL o g0 S' l
 | [],_=>rfl
 |a::af,h=>by simp only[gL];rw[h af.length (by simp),b8d (l:=af) (λj hj=>h j (by simp;omega))]
theorem d10{i:Nat}{r:R}:∀{l:List R},nth l i=some r→S i=false→(∀k r',nth l k=some r'→i<k→S k=true→∀s,(o r s).isSome→o r' s=none)→
 gL o g0 (b9x S i) l=λs=>(o r s).getD (gL o g0 S l s)
 | [],h,_,_=>by simp[nth]at h
 |a::af,h,hS,hk=>by
  unfold nth at h;split at h
  ·rename_i hi;cases h;have:gL o g0 (b9x S i) af=gL o g0 S af:=b8d λj hj=>by simp[b9x];omega
   simp only[gL,this];subst hi;simp[b9x,hS]
  ·rename_i hi;have ag:=b37 h;have ih:=d10 h hS (λk r' hr=>hk k r' (b25 hr));simp only[gL,ih];have hp:b9x S i af.length=S af.length:=by simp[b9x];intro he;omega
   rw[hp];split
   ·rename_i ub
    funext s
    cases hr:o r s with
    |none=>simp
    |some v=>rw[hk _ a (b7x a af) ag ub s (by simp[hr])];simp
   ·rfl
end
/-! ### edges -/
def a7l(all:List Oper)(S:Nat→Bool)(j:Nat):Prop:=∀o,all[j]?=some o→∀e∈o.after.toList,Region.binds .any e=true→S e.on=true
theorem b3s{all:List Oper}{S:Nat→Bool}(hS:∀j,S j=true→a7l all S j)(i:Nat):∀n j,a7l all S j→a9r all i n j=true→S i=true
 |0,j,_,h=>by simp[a9r]at h
 |n+1,j,hj,h=>by
  unfold a9r at h;split at h
  ·rename_i o ho;simp only[List.any_eq_true,e9l,f6q,f6k]at h;obtain⟨e,he,hb,h⟩:=h;have l6:=hj o ho e he hb;rcases h with rfl|h
   ·exact l6
   ·exact b3s hS i n e.on (hS _ l6) h
  ·cases h
theorem b64{all:List Oper}{S:Nat→Bool}(hS:∀j,S j=true→a7l all S j){i j:Nat}(hj:a7l all S j)(h:a4c all i j=true):S i=true:=by
 unfold a4c at h;rw[f6q]at h;rcases h with h|h
 ·unfold d88 at h;split at h
  ·rename_i o ho;simp only[List.any_eq_true,e9l,f6k]at h;obtain⟨e,he,hb,rfl⟩:=h;exact hj o ho e he hb
  ·cases h
 ·exact b3s hS i _ j hj h
theorem c09{all:List Oper}{j:Nat}{y:LogE}:∀{l:List LogE},logOk.logRow all j y l.length l=true→∀i x,nth l i=some x→x.clash y=true→a4c all i j=true
 | [],_,i,x,h,_=>by simp[nth]at h
 |a::af,hl,i,x,h,hc=>by
  simp only[e9m,logOk.logRow,e9l,f6q,f3z]at hl;unfold nth at h;split at h
  ·rename_i hi;cases h;subst hi;rcases hl.1 with h'|h'
   ·rw[hc]at h';cases h'
   ·exact h'
  ·exact c09 hl.2 i x h hc
theorem b28{all:List Oper}:∀{l:List LogE},logOk all l.length l=true→∀i j x y,i<j→nth l i=some x→nth l j=some y→x.clash y=true→a4c all i j=true
 | [],_,i,j,x,y,_,h,_,_=>by simp[nth]at h
 |a::af,hl,i,j,x,y,bB,hi,hj,hc=>by
  simp only[e9m,logOk,e9l]at hl;unfold nth at hj;split at hj
  ·rename_i rS;cases hj;subst rS;unfold nth at hi;rw[f0j (by omega)]at hi;exact c09 hl.1 i x hi hc
  ·have:=b37 hj;unfold nth at hi;rw[f0j (by omega)]at hi;exact b28 hl.2 i j x y bB hi hj hc
/-! ### what is asked of a region's text -/
def b1c(l:List Operand):List Nat:=l.filterMap λ|.tmp t=>some t|_=>none
def looks(all:List Oper)(o:Oper):List Nat:=
 b1c o.op.operands.toList++(match o.guard with
  |some (g,_)=>(a2y all g).toList
  |none=>[])
def a5p(all:List Oper)(x y:Oper):Bool:=
 (match x.dst with|some d=>(looks all y).contains d|none=>false) ||
 (match y.dst with|some d=>(looks all x).contains d|none=>false) ||
 (match x.dst,y.dst with|some d,some d'=>d==d'|_,_=>false)
def b4c(all:List Oper)(j:Nat)(y:Oper):Nat→List Oper→Bool
 |_,[]=>true
 |i,x::r=>(Nat.ble j i || !(a5p all x y)||a4c all i j)&&b4c all j y (i+1) r
def b00(all:List Oper):Nat→List Oper→Bool
 |_,[]=>true
 |j,y::r=>y.after.toList.all (λe=>!(Region.binds .any e)||Nat.blt e.on j)&&b4c all j y 0 all&&b00 all (j+1) r
def c4u(all:List Oper):Bool:=b00 all 0 all
theorem b6w{all:List Oper}{j:Nat}{y:Oper}:∀{l:List Oper} {s:Nat},b4c all j y s l=true→∀i x,l[i]?=some x→s+i<j→a5p all x y=true→a4c all (s+i) j=true
 | [],s,_,i,x,h,_,_=>by simp at h
 |a::r,s,hl,0,x,h,bB,hm=>by
  simp only[b4c,e9l,f6q,f3z,f4k]at hl;simp only[f1p,Option.some.injEq]at h;subst h;rcases hl.1 with (h|h)|h
  ·omega
  ·rw[hm]at h;cases h
  ·exact h
 |a::r,s,hl,i+1,x,h,bB,hm=>by simp only[b4c,e9l]at hl;have:=b6w hl.2 i x (by simpa using h) (by omega) hm;rw[show s+(i+1)=s+1+i by omega];exact this
theorem b4b{all:List Oper}:∀{l:List Oper} {s:Nat},b00 all s l=true→∀j y,l[j]?=some y→
 (∀e∈y.after.toList,Region.binds .any e=true→e.on<s+j)∧∀i x,all[i]?=some x→i<s+j→a5p all x y=true→a4c all i (s+j)=true
 | [],s,_,j,y,h=>by simp at h
 |a::r,s,hl,0,y,h=>by simp only[b00,e9l,f2u,f6q,f3z,f2p]at hl;simp only[f1p,Option.some.injEq]at h;subst h;refine⟨λe he hb=>(hl.1.1 e he).resolve_left (by simp[hb]),λi x hx hi hm=>?_⟩;have:=b6w hl.1.2 i x hx (by omega) hm;simpa using this
 |a::r,s,hl,j+1,y,h=>by simp only[b00,e9l]at hl;have:=b4b hl.2 j y (by simpa using h);rw[show s+(j+1)=s+1+j by omega];exact this
theorem b01{all:List Oper}(h:c4u all=true){j:Nat}{y:Oper}(hy:all[j]?=some y) :
 (∀e∈y.after.toList,Region.binds .any e=true→e.on<j)∧∀i x,all[i]?=some x→i<j→a5p all x y=true→a4c all i j=true:=by
 have:=b4b h j y hy;simpa using this
end Go.Ax
/- AxDraw: a region that draws its order: one run in text order stands for a48 order. -/
namespace Go.Ax
theorem d2b{E:Env}{n n':Nat}{h:FHeap}{op:Op}{v:Operand→AV}{x:AV}{e:Eff}(ha:aop E n h op v=some (x,e))(he:e.fresh=false):aop E n' h op v=some (x,e):=by
 have app:∀st xt s y,a4k E h n st xt s y=some (x,e)→a4k E h n' st xt s y=some (x,e):=by
  intro st xt s y hy;unfold a4k at hy⊢;simp only[cond_eq_ite]at hy⊢
  repeat' split at hy
  all_goals first
   |(cases hy;done)
   |(cases hy;simp[Eff.fresh]at he;done)
   |(simp_all;done)
   |(simp_all;rename_i hh;exact hh.2)
 have qU:∀st xt s y,a2t E n st xt s y=some (x,e)→a2t E n' st xt s y=some (x,e):=by
  intro st xt s y hy;unfold a2t at hy⊢;simp only[cond_eq_ite]at hy⊢
  repeat' split at hy
  all_goals first
   |(cases hy;done)
   |(cases hy;simp[Eff.fresh]at he;done)
   |(simp_all;done)
 have blt:∀b ts args,d73 E n h b ts args=some (x,e)→d73 E n' h b ts args=some (x,e):=by
  intro b ts args hb;unfold d73 at hb⊢;split at hb
  all_goals first
   |exact hb
   |exact app _ _ _ _ hb
   |(rcases a91 hb with hb|hb<;>first|(rw[app _ _ _ _ hb];rfl)|(rw[c3h hb n' h,qU _ _ _ _ hb];rfl))
 cases op
 case alloc t=>
  simp only[aop,e1v,cond_eq_ite]at ha
  repeat' split at ha
  all_goals cases ha
  simp[Eff.fresh]at he
 case box t y=>
  simp only[aop,e27,cond_eq_ite]at ha
  repeat' split at ha
  all_goals cases ha
  all_goals simp[Eff.fresh]at he
 case buildSlice=>
  simp only[aop,a3d,cond_eq_ite]at ha
  repeat' split at ha
  all_goals cases ha
  all_goals simp[Eff.fresh]at he
 case makeMap=>
  simp only[aop]at ha
  repeat' split at ha
  all_goals cases ha
  all_goals simp[Eff.fresh]at he
 case makeSlice=>
  simp only[aop,a47,cond_eq_ite]at ha
  repeat' split at ha
  all_goals cases ha
  all_goals simp[Eff.fresh]at he
 case range=>
  simp only[aop]at ha;rcases a91 ha with ha|ha
  ·simp only[c5a]at ha
   repeat' split at ha
   all_goals cases ha
   all_goals simp[Eff.fresh]at he
  ·simp only[b8s,cond_eq_ite]at ha
   repeat' split at ha
   all_goals cases ha
   all_goals simp[Eff.fresh]at he
 case call c=>
  obtain⟨callee,args,ts⟩:=c;cases callee with
  |builtin b=>exact blt _ _ _ ha
  |_=>cases ha
 all_goals exact ha
structure Rec where
 dst:Option Nat
 v:AV
 ov:Nat→Option (Option AObj)
 fresh:Nat
 log:LogE
def fov(r:Rec)(s:Nat):Option AV:=if r.dst=some s then some r.v else none
def hov(r:Rec)(b:Nat):Option (Option AObj):=r.ov b
def cnt(m0:Nat):List Rec→Nat
 | []=>m0
 |r::af=>cnt m0 af+r.fresh
def c45(m0:Nat)(S:Nat→Bool):List Rec→Nat→Prop
 | [],_=>False
 |r::af,b=>(S af.length=true∧cnt m0 af≤b∧b<cnt m0 af+r.fresh)∨c45 m0 S af b
theorem c2h{m0:Nat}{S:Nat→Bool}:∀{l:List Rec} {b:Nat},c45 m0 S l b→b<cnt m0 l
 | [],b,h=>h.elim
 |r::af,b,h=>by
  simp only[cnt];rcases h with ⟨_,_,h⟩|h
  ·exact h
  ·have:=c2h h;omega
theorem d1r{m0:Nat}{i:Nat}{r:Rec}:∀{l:List Rec},nth l i=some r→cnt m0 (pre l i)+r.fresh≤cnt m0 l
 | [],h=>by simp[nth]at h
 |a::af,h=>by
  unfold nth at h;simp only[pre,cnt];split at h
  ·rename_i hi;cases h;rw[f1r hi];omega
  ·rename_i hi;have:=d1r (m0:=m0) h;rw[f0j hi];omega
theorem c9r{m0:Nat}{S:Nat→Bool}{i:Nat}{r:Rec}{b:Nat}:∀{l:List Rec},nth l i=some r→cnt m0 (pre l i)≤b→b<cnt m0 (pre l i)+r.fresh→c45 m0 S l b→S i=true
 | [],h,_,_,_=>by simp[nth]at h
 |a::af,h,h1,h2,hm=>by
  unfold nth at h;split at h
  ·rename_i hi;cases h;simp only[pre,f1r hi]at h1 h2;rcases hm with ⟨hS,_⟩|hm
   ·rw[hi];exact hS
   ·have:=c2h hm;omega
  ·rename_i hi;simp only[pre,f0j hi]at h1 h2;have:=d1r (m0:=m0) h;rcases hm with ⟨_,gX,_⟩|hm
   ·omega
   ·exact c9r h h1 h2 hm
theorem c06{m0:Nat}{S:Nat→Bool}{i:Nat}{r:Rec}{b:Nat}:∀{l:List Rec},nth l i=some r→(c45 m0 S l b∨(cnt m0 (pre l i)≤b∧b<cnt m0 (pre l i)+r.fresh))→c45 m0 (b9x S i) l b
 | [],h,_=>by simp[nth]at h
 |a::af,h,hb=>by
  have mono:∀{l:List Rec},c45 m0 S l b→c45 m0 (b9x S i) l b:=by
   intro l
   induction l with
   |nil=>exact λh=>h
   |cons a af ih=>exact λh=>h.imp (λ⟨h1,h2⟩=>⟨by simp[b9x,h1],h2⟩) ih
  unfold nth at h;rcases hb with hb|⟨cj,cN⟩
  ·exact mono hb
  ·split at h
   ·rename_i hi;cases h;simp only[pre,f1r hi]at cj cN;exact .inl ⟨by simp[b9x,hi],cj,cN⟩
   ·rename_i hi;simp only[pre,f0j hi]at cj cN;exact .inr (c06 h (.inr ⟨cj,cN⟩))
structure DNow(E:Env)(e:Entry)(N m0:Nat)(C:Nat→Prop)(f:Nat→AV)(h:FHeap)(I:Nat→Prop)(ρ:PMap)(a:Act)(w:World):Prop where
 imm:∀c,e.I c→I c
 map:∀b,b<e.m→ρ b=e.ρ b
 ext:Ext e.I e.K e.w w
 rel:HRel E.G I e.K ρ h w
 nrel:∀b,m0≤b→¬C b→ρ b=none
 fin:∃M,NRel ρ M
 size:a.tmps.size=N
 frm:∀s,VRel I w ρ (f s) (a.tmps.getD s undef)
 marks:Marks e I w a.defers
def opvf(E:Env)(f:Nat→AV):Operand→AV
 |.tmp t=>f t
 |.const v=>c4x v
 |.global g=>match E.G g with|some cs=>.iptr cs|none=>.junk
 |.func f=>.func (.func f) [] []
section
variable {E:Env}{e:Entry}{N m0:Nat}{C:Nat→Prop}{f:Nat→AV}{h:FHeap}{I:Nat→Prop}{ρ:PMap}{a:Act}{w:World}
theorem DNow.opvf(d:DNow E e N m0 C f h I ρ a w)(x:Operand):VRel I w ρ (opvf E f x) (a.eval x):=by
 cases x with
 |tmp t=>exact d.frm t
 |const v=>exact c12 v
 |global g=>
  simp only[Ax.opvf,Act.eval];cases hg:E.G g with
  |none=>simp[VRel]
  |some cs=>obtain⟨h1,h2⟩:=d.rel.glob g cs hg;simp only[VRel];exact⟨g,0,rfl,h1,h2⟩
 |func f=>simp only[Ax.opvf,Act.eval,VRel];exact⟨#[],#[],rfl,by simp[VRels],by simp[VRels]⟩
theorem c68{t:Nat}{l:List Operand}(h:Operand.tmp t∈l):t∈b1c l:=by simp only[b1c,List.mem_filterMap];exact⟨_,h,rfl⟩
theorem b36{F:Frm}{l:List Operand}(hf:∀s∈b1c l,f s=a38 F s):∀x∈l,opv E F x=opvf E f x:=by
 intro x hx;cases x with
 |tmp t=>exact(hf t (c68 hx)).symm
 |_=>rfl
theorem b0p{I':Nat→Prop}{w':World}{ρ':PMap}(hv:∀(v:AV) (c:Value),VRel I w ρ v c→VRel I' w' ρ' v c)(bJ:a.tmps.size=N)(hf:∀s,VRel I w ρ (f s) (a.tmps.getD s undef)){d:Option Nat}
 (hd:a6t N d=true){v:AV}{c:Value}(hc:VRel I' w' ρ' v c):∀s,VRel I' w' ρ' ((if d=some s then some v else none).getD (f s)) ((a.put d c).tmps.getD s undef):=by
 intro s;cases d with
 |none=>simpa[Act.put]using hv _ _ (hf s)
 |some d=>
  have ag:d<N:=by simpa[a6t,f2p]using hd
  simp only[Act.put,f2y,f3c,bJ,Option.some.injEq];split
  ·subst s;simpa[ag]using hc
  ·have:=hv _ _ (hf s);simpa[f2y]using this
theorem a8h{d:Option Nat}{c:Value}:(a.put d c).tmps.size=a.tmps.size:=by cases d<;>simp[Act.put]
def c7l(n:Nat):Eff→Nat→Option (Option AObj)
 |.none,_=>none
 |.new o,b=>if b=n then some (some o)else none
 |.set b0 o,b=>if b=b0 then some (some o)else none
 |.kill b0 o,b=>if b=n then some (some o)else if b=b0 then some none else none
theorem e5t(h:FHeap)(n:Nat)(e:Eff):h.eff n e=λb=>(c7l n e b).getD (h b):=by
 funext b
 cases e<;>simp only[FHeap.eff,FHeap.set,c7l]
 ·rfl
 ·split<;>rfl
 ·split<;>rfl
 ·split
  ·rfl
  ·split<;>rfl
theorem e15{H:a02}{e:Eff}(hf:e.fits H.length=true):a01 (b16 H e)=λb=>(c7l H.length e b).getD (a01 H b):=by
 funext b
 cases e with
 |none=>rfl
 |new o=>
  simp only[b16,a01,c7l];split
  ·subst b;simp
  ·rcases f4i b H.length with h1|h1
   ·rw[f0i h1];rfl
   ·rw[f2n (by simp;omega),f2n (by omega)];rfl
 |set b1 o=>
  have cj:b1<H.length:=by simpa[Eff.fits,f2p]using hf
  simp only[b16,a01,c7l,f2v];split
  ·subst b;simp[cj]
  ·rename_i au;rw[f0j (λe=>au e.symm)];rfl
 |kill b1 o=>
  have cj:b1<H.length:=by simpa[Eff.fits,f2p]using hf
  simp only[b16,a01,c7l];split
  ·subst b;rw[f1n (by simp)];simp
  ·rcases f4i b H.length with h1|h1
   ·rw[f0i (by simpa using h1),f2v];split
    ·rename_i au;subst au;simp[cj]
    ·rename_i au kZ;rw[f0j (λe=>kZ e.symm)];rfl
   ·rw[f2n (by simp;omega),f0j (by omega),f2n h1];rfl
theorem c99{n b:Nat}{e:Eff}(h:(c7l n e b).isSome=true):b∈e.keys n:=by
 cases e<;>simp only[c7l]at h
 ·simp at h
 ·split at h
  ·subst b;simp[Eff.keys]
  ·simp at h
 ·split at h
  ·subst b;simp[Eff.keys]
  ·simp at h
 ·split at h
  ·subst b;simp[Eff.keys]
  ·split at h
   ·subst b;simp[Eff.keys]
   ·simp at h
end
end Go.Ax
/- AxDraw2: one operation of a region that draws its order. -/
namespace Go.Ax
section
variable {E:Env}{e:Entry}{N m0:Nat}
theorem b1d{hp fM:FHeap}{σ:List Nat}(h:∀b∈σ,hp b=fM b):a5o hp σ=a5o fM σ:=by unfold a5o;exact f3h λb hb=>by rw[h b hb]
def b93(E:Env)(ro:Option Nat)(e:Entry)(N m0 n:Nat)(o:Oper)(fp:Nat→AV)(hp:FHeap)(v:AV)(ov:Nat→Option (Option AObj))(fresh:Nat)(l:LogE):Prop:=
 ∀{C:Nat→Prop} {f:Nat→AV} {h:FHeap} {I:Nat→Prop} {ρ:PMap} {a:Act} {w:World},DNow E e N m0 C f h I ρ a w→(∀s∈b1c o.op.operands.toList,f s=fp s)→(∀b∈l.needs,h b=hp b)→(∀b,n≤b→b<n+fresh→¬C b)→
  ∀{K:Act→World→Prop} {Q:Exit→Act→World→Prop},(∀I' ρ' a' w',DNow E e N m0 (λb=>C b∨(n≤b∧b<n+fresh)) (λs=>((if o.dst=some s then some v else none).getD (f s))) (λb=>(ov b).getD (h b)) I' ρ' a' w'→K a' w')→
   o.wpIn (wf ro) 0 E.P a w K Q
def Eff.nf(e:Eff):Nat:=if e.fresh=true then 1 else 0
theorem d6r(ok:EnvOk E){ro:Option Nat}{F:Frm}{H:a02}{o:Oper}{v:AV}{eff:Eff}(bg:e.m≤m0)(bY:m0≤H.length)(hd:a6t N o.dst=true)(ha:aop E H.length (a01 H) o.op (opv E F)=some (v,eff)) :
 b93 E ro e N m0 H.length o (a38 F) (a01 H) v (c7l H.length eff) eff.nf ⟨a89 o.op (opv E F),eff.keys H.length⟩:=by
 intro C f h I ρ a w aj hf hh hC K Q hK;have dE:=b36 (E:=E) hf;have mZ:∀x∈o.op.operands,opv E F x=opvf E f x:=λx hx=>dE x (by simpa using hx);have mo:aop E H.length h o.op (opvf E f)=some (v,eff):=by rw[←d2d mZ,d2c (h':=a01 H) hh];exact ha
 obtain⟨M,hM⟩:=aj.fin;obtain⟨n',a9,hρ',nY⟩:∃n',(eff.fresh=true→n'=H.length)∧ρ n'=none∧aop E n' h o.op (opvf E f)=some (v,eff):=by
  cases eM:eff.fresh with
  |true=>exact⟨H.length,λ_=>rfl,aj.nrel _ bY (hC _ (f1u _) (by simp[Eff.nf,eM])),mo⟩
  |false=>exact⟨M,(by simp),hM _ (f1u _),d2b mo eM⟩
 have dk:h n'=none:=by
  cases hx:h n' with
  |none=>rfl
  |some ob=>obtain⟨m,h1,_⟩:=aj.rel.live _ _ hx;rw[hρ']at h1;cases h1
 obtain⟨x,w',c,ρ',ac,hx,step,hv,hm⟩:=d8f ok aj.rel dk hρ' nY aj.opvf;have hov:h.eff n' eff=λb=>(c7l H.length eff b).getD (h b):=by
  rw[e5t];cases eM:eff.fresh with
  |true=>rw[a9 eM]
  |false=>cases eff<;>simp[Eff.fresh]at eM<;>rfl
 have ge:∀b,(eff.fresh=true→b≠H.length)→ρ' b=ρ b:=by
  intro b hb;cases eM:eff.fresh with
  |true=>exact hm.1 b (by rw[a9 eM];exact hb eM)
  |false=>rw[hm.2 eM]
 have aQ:DNow E e N m0 (λb=>C b∨(H.length≤b∧b<H.length+eff.nf)) (λs=>((if o.dst=some s then some v else none).getD (f s))) (λb=>(c7l H.length eff b).getD (h b)) I ρ' (a.put o.dst c) w':=by
  refine⟨aj.imm,λb hb=>?_,aj.ext.trans aj.imm step.ext,hov▸step.rel,λb hb hc=>?_,⟨max M (H.length+1),λb hb=>?_⟩,by rw[a8h];exact aj.size,?_,by rw[a30];exact aj.marks.mono (λ_ h=>h) (λc hc=>step.ext.keep c (.inl hc))⟩
  ·rw[ge b (λ_=>by omega)];exact aj.map b hb
  ·rw[ge b (λhf he=>hc (.inr (by simp only[Eff.nf,hf,f4b];omega)))];exact aj.nrel b hb (λh=>hc (.inl h))
  ·rw[ge b (λ_=>by omega)];exact hM b (by omega)
  ·exact b0p (λv c hv=>step.vrel hv) aj.size aj.frm hd hv
 refine a7q (b4t ha) ?_;rw[ac];rcases hx with rfl|⟨rfl,rfl⟩
 ·rw[Oper.uponIn_value];exact hK I ρ' _ _ aQ
 ·rw[Oper.uponIn_skip];exact hK I ρ' _ _ aQ
theorem d22{g:FuncId}{run:List AV→a02→Option (AV×a02)}(ac:b0d E g run){args:List AV}{H H':a02}{v:AV}{σ:List Nat}
 (ae:a1r run args H=some (v,H',σ))(ai:H'.length=H.length) :
 ∃ov:Nat→Option (Option AObj),(a01 H'=λb=>(ov b).getD (a01 H b))∧(∀b,(ov b).isSome=true→b∈σ)∧
  ∀{I K:Nat→Prop} {ρ:PMap} {h:FHeap} {w:World} {ak:List Value},HRel E.G I K ρ h w→(∀b∈σ,h b=a01 H b)→VRels I w ρ args ak→
   XOf E g ak w λen w'=>∃c I',en = .returned c∧(∀c,I c→I' c)∧Ext I K w w'∧HRel E.G I' K ρ (λb=>(ov b).getD (h b)) w'∧VRel I' w' ρ v c:=by
 unfold a1r at ae;simp only at ae;generalize hσ:a2p H a53 (a08 args) []=σ' at ae;rw[cond_eq_ite]at ae;split at ae
 case isFalse=>cases ae
 rename_i hc;simp only[e9l,f2u,f2p]at hc;obtain⟨aY,ag⟩:=hc;have aY:=a8j aY;split at ae
 case h_2=>cases ae
 rename_i v1 H1 hr;simp only[Option.some.injEq,Prod.mk.injEq]at ae;obtain⟨rfl,rfl,rfl⟩:=ae;have iA:run (args.map (ren (a4m σ'))) (a5o (a01 H) σ')=some (v1,H1):=hr;have lM:H1.length≤σ'.length:=by simp only[f1o,a17,c11,List.length_drop]at ai;omega
 refine⟨λb=>(σ'.idxOf? b).map λj=>(a01 H1 j).map (a0g (a13 σ' H.length)),?_,?_,?_⟩
 ·funext b
  simp only[a01];rcases f4i b H.length with hb|hb
  ·rw[f0i (by rw[a17];exact hb),a73];simp only[f3e];rw[z9e hb];cases hx:σ'.idxOf? b<;>simp[a01]
  ·rw[f2n (by simp only[f1o,a17,c11,List.length_drop];omega),f2n hb];cases hx:σ'.idxOf? b with
   |none=>rfl
   |some j=>have:=ag b (c10 (a1p hx));omega
 ·intro b hb;dsimp only at hb;cases hx:σ'.idxOf? b with
  |none=>rw[hx]at hb;simp at hb
  |some j=>exact c10 (a1p hx)
 ·intro I K ρ h w ak rel hh ha;have e8:run (args.map (ren (a4m σ'))) (a5o h σ')=some (v1,H1):=by rw[b1d hh];exact iA
  refine XOf.mono (b8o ac e8 rel aY ha) ?_
  rintro en w' ⟨c,I1,ρ1,rfl,aB,hv⟩
  have bW:∀j b m,a13 σ' H.length j=some b→ρ1 j=some m→ρ b=some m:=by
   intro j b m hj hm;rcases f4i j σ'.length with bu|bu
   ·simp only[a13]at hj;rw[cond_eq_ite,f1r (by simpa[f2p]using bu)]at hj;have:=aB.map j bu;rw[hm,hj]at this;exact this.symm
   ·rw[aB.nrel j (by omega)]at hm;cases hm
  refine⟨c,I1,rfl,aB.imm,aB.ext.keepLess (λc hc=>.inl hc),?_,VRel.ren bW v1 hv⟩;refine b8q rel aY aB (λ_ _ h=>h) bW (λb m hb=>.inl hb) ?_;intro b o hb;dsimp only at hb;cases hx:σ'.idxOf? b with
  |none=>rw[hx]at hb;exact .inl ⟨b0u hx,hb⟩
  |some j=>rw[hx]at hb;simp only[f0e,f3i]at hb;obtain⟨o1,d7,rfl⟩:=a05 hb;have hσj:=a1p hx;refine .inr ⟨j,o1,?_,d7,rfl⟩;simp only[a13];rw[cond_eq_ite,f1r (by simpa[f2p]using(e9k.1 hσj).1)];exact hσj
theorem d6e{g:FuncId}{run:List AV→a02→Option (AV×a02)}(ac:b0d E g run){args:List AV}{H H':a02}{v:AV}{σ:List Nat}
 (ae:a1r run args H=some (v,H',σ)){q:Nat}(ai:H'.length=H.length+q) :
 ∃ov:Nat→Option (Option AObj),(a01 H'=λb=>(ov b).getD (a01 H b))∧(∀b,(ov b).isSome=true→b∈σ++List.range' H.length q)∧
  ∀{I K:Nat→Prop} {ρ:PMap} {h:FHeap} {w:World} {ak:List Value},HRel E.G I K ρ h w→(∀b,H.length≤b→b<H.length+q→ρ b=none)→(∀b∈σ,h b=a01 H b)→VRels I w ρ args ak→
   XOf E g ak w λen w'=>∃c I' ρ',en = .returned c∧(∀c,I c→I' c)∧Ext I K w w'∧(∀b,¬(H.length≤b∧b<H.length+q)→ρ' b=ρ b)∧HRel E.G I' K ρ' (λb=>(ov b).getD (h b)) w'∧VRel I' w' ρ' v c:=by
 unfold a1r at ae;simp only at ae;generalize hσ:a2p H a53 (a08 args) []=σ' at ae;rw[cond_eq_ite]at ae;split at ae
 case isFalse=>cases ae
 rename_i hc;simp only[e9l,f2u,f2p]at hc;obtain⟨aY,ag⟩:=hc;have aY:=a8j aY;split at ae
 case h_2=>cases ae
 rename_i v1 H1 hr;simp only[Option.some.injEq,Prod.mk.injEq]at ae;obtain⟨rfl,rfl,rfl⟩:=ae;have iA:run (args.map (ren (a4m σ'))) (a5o (a01 H) σ')=some (v1,H1):=hr;have lM:H1.length-σ'.length=q:=by simp only[f1o,a17,c11,List.length_drop]at ai;omega
 refine⟨λb=>if H.length≤b∧b<H.length+q then some ((a01 H1 (σ'.length+(b-H.length))).map (a0g (a13 σ' H.length)))else(σ'.idxOf? b).map λj=>(a01 H1 j).map (a0g (a13 σ' H.length)),?_,?_,?_⟩
 ·funext b
  simp only[a01];rcases f4i b H.length with hb|hb
  ·rw[f0i (by rw[a17];exact hb),a73,f0j (by omega)];simp only[f3e];rw[z9e hb];cases hx:σ'.idxOf? b<;>simp[a01]
  ·rw[f1n (by rw[a17];exact hb),a17,f0d,f6i];by_cases he:b<H.length+q
   ·rw[f1r ⟨hb,he⟩];cases hx:H1[σ'.length+(b-H.length)]? with
    |none=>simp[hx]
    |some ob=>simp[hx]
   ·rw[f0j (by omega),f2n (by omega),f2n hb];cases hx:σ'.idxOf? b with
    |none=>rfl
    |some j=>have:=ag b (c10 (a1p hx));omega
 ·intro b hb;dsimp only at hb;by_cases he:H.length≤b∧b<H.length+q
  ·exact List.mem_append_right _ (by rw[List.mem_range'_1];exact he)
  ·rw[f0j he]at hb;cases hx:σ'.idxOf? b with
   |none=>rw[hx]at hb;simp at hb
   |some j=>exact List.mem_append_left _ (c10 (a1p hx))
 ·intro I K ρ h w ak rel hn hh ha;have e8:run (args.map (ren (a4m σ'))) (a5o h σ')=some (v1,H1):=by rw[b1d hh];exact iA
  refine XOf.mono (b8o ac e8 rel aY ha) ?_
  rintro en w' ⟨c,I1,ρ1,rfl,aB,hv⟩
  have bg:=aB.low;have bW:∀j b m,a13 σ' H.length j=some b→ρ1 j=some m→(if H.length≤b∧b<H.length+q then ρ1 (σ'.length+(b-H.length))else ρ b)=some m:=by
   intro j b m hj hm;simp only[a13]at hj;rw[cond_eq_ite]at hj;split at hj
   ·rename_i bu;have bu:j<σ'.length:=by simpa[f2p]using bu
    have hb:=ag b (c10 hj);rw[f0j (by omega)];have:=aB.map j bu;rw[hm,hj]at this;exact this.symm
   ·rename_i bu;have bu:σ'.length≤j:=by simpa[f2p]using bu
    cases hj;by_cases he:j-σ'.length<q
    ·rw[f1r (by omega),show σ'.length+(H.length+(j-σ'.length)-H.length)=j by omega];exact hm
    ·rw[aB.nrel j (by omega)]at hm;cases hm
  have aF:∀b m,ρ b=some m→(if H.length≤b∧b<H.length+q then ρ1 (σ'.length+(b-H.length))else ρ b)=some m:=by intro b m hb;rw[f0j (λe=>by rw[hn b e.1 e.2]at hb;cases hb)];exact hb
  refine⟨c,I1,λb=>if H.length≤b∧b<H.length+q then ρ1 (σ'.length+(b-H.length))else ρ b,rfl,aB.imm,aB.ext.keepLess (λc hc=>.inl hc),λb hb=>f0j hb,?_,VRel.ren bW v1 hv⟩;refine b8q rel aY aB aF bW ?_ ?_
  ·intro b m hb;split at hb
   ·exact .inr ⟨_,hb⟩
   ·exact .inl hb
  intro b o hb;dsimp only at hb;by_cases he:H.length≤b∧b<H.length+q
  ·rw[f1r he,f3i]at hb;obtain⟨o1,d7,rfl⟩:=a05 hb;refine .inr ⟨σ'.length+(b-H.length),o1,?_,d7,rfl⟩;simp only[a13];rw[cond_eq_ite,f0j (by simp[f2p])]
   congr 1;omega
  rw[f0j he]at hb;cases hx:σ'.idxOf? b with
  |none=>rw[hx]at hb;exact .inl ⟨b0u hx,hb⟩
  |some j=>rw[hx]at hb;simp only[f0e,f3i]at hb;obtain⟨o1,d7,rfl⟩:=a05 hb;have hσj:=a1p hx;refine .inr ⟨j,o1,?_,d7,rfl⟩;simp only[a13];rw[cond_eq_ite,f1r (by simpa[f2p]using(e9k.1 hσj).1)];exact hσj
theorem c8a(ok:EnvOk E){ro:Option Nat}{call:FuncId→List AV→a02→Option (AV×a02)}(ae:a35 E call){F:Frm}{H H':a02}{o:Oper}{v:AV}{l:LogE}(bg:e.m≤m0)(bY:m0≤H.length)
 (hs:a0u E true call F H o.op=some (v,H',l))(hd:a6t N o.dst=true) :
 ∃ov fresh,(a01 H'=λb=>(ov b).getD (a01 H b))∧H'.length=H.length+fresh∧(∀b,(ov b).isSome=true→b∈l.keys)∧b93 E ro e N m0 H.length o (a38 F) (a01 H) v ov fresh l:=by
 unfold a0u at hs;split at hs
 ·rename_i f args oA dA;split at hs
  case h_2=>cases hs
  rename_i v' H1 σ aS;cases hs
  -- what is called,in whatever state
  have tail:∀(g:FuncId) (as:List AV),a1r (call g) as H=some (v,H',σ)→(H.length≤H'.length)→(a6g E (opv E F f) H H' σ=true→∀b∈σ,a01 H b=a01 H' b)→
   (∀{C:Nat→Prop} {f':Nat→AV} {h:FHeap} {I:Nat→Prop} {ρ:PMap} {a:Act} {w:World},DNow E e N m0 C f' h I ρ a w→(∀s∈b1c o.op.operands.toList,f' s=a38 F s)→
    ∃ak,VRels I w ρ as ak∧∀{R:Ending→World→Prop},XOf E g ak w R→∀{K:Act→World→Prop} {Q:Exit→Act→World→Prop},(∀en w',R en w'→∃c,en = .returned c∧K (a.put o.dst c) w')→o.wpIn (wf ro) 0 E.P a w K Q)→
   ∃ov fresh,(a01 H'=λb=>(ov b).getD (a01 H b))∧H'.length=H.length+fresh∧(∀b,(ov b).isSome=true→b∈b53 (a6g E (opv E F f) H H' σ) σ H.length H'.length)∧
    b93 E ro e N m0 H.length o (a38 F) (a01 H) v ov fresh ⟨σ,b53 (a6g E (opv E F f) H H' σ) σ H.length H'.length⟩:=by
   intro g as dW ai pD T;by_cases aQ:H'.length≠H.length
   ·have hq:H'.length=H.length+(H'.length-H.length):=by omega
    generalize H'.length-H.length=q at hq;have hk:b53 (a6g E (opv E F f) H H' σ) σ H.length H'.length=σ++List.range' H.length q:=by unfold b53;rw[cond_eq_ite,f0j (by rw[f7g];omega),show H'.length-H.length=q by omega]
    obtain⟨ov,h1,h2,h3⟩:=d6e (ae g) dW hq;refine⟨ov,q,h1,hq,by rw[hk];exact h2,?_⟩;intro C f' h I ρ a w aj hf hh hC K Q hK;obtain⟨ak,aC,tr⟩:=T aj hf;have dk:∀b,H.length≤b→b<H.length+q→ρ b=none:=λb h1 h2=>aj.nrel b (by omega) (hC b h1 h2);refine tr (h3 aj.rel dk hh aC) ?_
    rintro en w' ⟨c,I',ρ',rfl,hI,b9,hρ',bA,dc⟩
    refine⟨c,rfl,?_⟩;obtain⟨M,hM⟩:=aj.fin;have aF:∀b m,ρ b=some m→ρ' b=some m:=by intro b m hb;rw[hρ' b (λe=>by rw[dk b e.1 e.2]at hb;cases hb)];exact hb
    refine hK I' ρ' _ _ ⟨λc hc=>hI c (aj.imm c hc),λb hb=>?_,aj.ext.trans aj.imm b9,bA,λb hb hc=>?_,⟨max M (H.length+q),λb hb=>?_⟩,by rw[a8h];exact aj.size,?_,by rw[a30];exact aj.marks.mono hI (λc hc=>b9.keep c (.inl hc))⟩
    ·rw[hρ' b (by omega)];exact aj.map b hb
    ·rw[hρ' b (λe=>hc (.inr e))];exact aj.nrel b hb (λh=>hc (.inl h))
    ·rw[hρ' b (by omega)];exact hM b (by omega)
    ·exact b0p (λv c hv=>VRel.mono hI (λc hc=>b9.keep c (.inl hc)) v aF hv) aj.size aj.frm hd dc
   have ai:H'.length=H.length:=Classical.not_not.1 aQ;have hk:b53 (a6g E (opv E F f) H H' σ) σ H.length H'.length=(bif a6g E (opv E F f) H H' σ then[]else σ):=by unfold b53;rw[ai,cond_eq_ite,f1r (by rw[f7g])]
   rw[hk];obtain⟨ov,h1,h2,h3⟩:=d22 (ae g) dW ai;obtain⟨ov,h1,h2,h3⟩:∃ov:Nat→Option (Option AObj),(a01 H'=λb=>(ov b).getD (a01 H b))∧(∀b,(ov b).isSome=true→b∈(bif a6g E (opv E F f) H H' σ then[]else σ))∧
    ∀{I K:Nat→Prop} {ρ:PMap} {h:FHeap} {w:World} {ak:List Value},HRel E.G I K ρ h w→(∀b∈σ,h b=a01 H b)→VRels I w ρ as ak→
     XOf E g ak w λen w'=>∃c I',en = .returned c∧(∀c,I c→I' c)∧Ext I K w w'∧HRel E.G I' K ρ (λb=>(ov b).getD (h b)) w'∧VRel I' w' ρ v c:=by
    cases jp:a6g E (opv E F f) H H' σ with
    |false=>exact⟨ov,h1,h2,h3⟩
    |true=>
     have bS:∀b∈σ,a01 H b=a01 H' b:=pD jp;have bU:∀b x,ov b=some x→x=a01 H b:=by intro b x hx;have e1:=bS b (h2 b (by rw[hx];rfl));rw[h1]at e1;simp only[hx,f3i]at e1;exact e1.symm
     refine⟨λ_=>none,?_,λb hb=>by simp at hb,?_⟩
     ·rw[h1];funext b
      cases hx:ov b with
      |none=>rfl
      |some x=>simp only[f3i,Option.getD_none];exact bU b x hx
     ·intro I K ρ h w ak bA hh ha;have e:(λb=>(ov b).getD (h b))=h:=by
       funext b
       cases hx:ov b with
       |none=>rfl
       |some x=>simp only[f3i];rw[bU b x hx,hh b (h2 b (by rw[hx];rfl))]
      refine XOf.mono (h3 bA hh ha) ?_
      rintro en w' ⟨c,I',r1,r2,r3,r4,r5⟩
      rw[e]at r4;exact⟨c,I',r1,r2,r3,by simpa using r4,r5⟩
   refine⟨ov,0,h1,ai,h2,?_⟩;intro C f' h I ρ a w aj hf hh hC K Q hK;obtain⟨ak,aC,tr⟩:=T aj hf;refine tr (h3 aj.rel hh aC) ?_
   rintro en w' ⟨c,I',rfl,hI,b9,bA,dc⟩
   refine⟨c,rfl,?_⟩;refine hK I' ρ _ _ ⟨λc hc=>hI c (aj.imm c hc),aj.map,aj.ext.trans aj.imm b9,bA,λb hb hc=>aj.nrel b hb (λh=>hc (.inl h)),aj.fin,by rw[a8h];exact aj.size,?_,by rw[a30];exact aj.marks.mono hI (λc hc=>b9.keep c (.inl hc))⟩;exact b0p (λv c hv=>VRel.mono hI (λc hc=>b9.keep c (.inl hc)) v (λ_ _ h=>h) hv) aj.size aj.frm hd dc
  have mE:¬((true && !(Nat.ble H.length H'.length))=true)→H.length≤H'.length:=by intro h;simpa only[f5n,f3z,Bool.not_eq_false,f4k]using h
  unfold a09 at aS;split at aS
  case h_3=>cases aS
  case h_2=>
   rename_i b iQ;split at aS
   case h_2=>cases aS
   rename_i mu H2 σ2 dW;rw[cond_eq_ite]at aS;split at aS
   case isTrue=>cases aS
   rename_i ai;cases aS;refine tail yId _ dW (mE ai) (λh=>by rw[iQ]at h;simp[a6g]at h) ?_;intro C f' h I ρ a w aj hf;have dE:=b36 (E:=E) hf;rw[dA]at dE;have gy:=aj.opvf f;rw[←dE f (by simp[Op.operands,Call.operands]),iQ]at gy;simp only[VRel]at gy;obtain⟨m,hm,ei⟩:=gy;have aC:args.toList.map (opv E F)=args.toList.map (opvf E f'):=f3h λx hx=>dE x (by simp[Op.operands,Call.operands];exact .inr (by simpa using hx));refine⟨.func (.yield m.blk) #[] #[]::(args.map a.eval).toList,?_,?_⟩
   ·simp only[VRels];refine⟨_,_,rfl,by simp only[VRel];exact⟨m,hm,rfl⟩,?_⟩;rw[f5r,aC];exact a51 aj.opvf args.toList
   ·intro R hc K Q hK;rw[e2b]at hc;obtain⟨l,vs,fn,tmps,asg,body,he,hy,hr⟩:=hc;simp only[List.cons.injEq,Value.func.injEq,Fn.yield.injEq,and_true]at he;obtain⟨hl,rfl⟩:=he;have bq:(args.map a.eval).toList.toArray=args.map a.eval:=by apply f6r;simp
    rw[bq]at hy;refine a7q (by rw[dA];intro c hc;cases hc) ?_;rw[b6t dA ei,hl,hy];refine b5j (hr.mono ?_);intro en w' hR;obtain⟨c,rfl,hk⟩:=hK en w' hR;exact hk
  rename_i g fs cs iQ
  -- the operands in another state
  have i5:∀{C:Nat→Prop} {f':Nat→AV} {h:FHeap} {I:Nat→Prop} {ρ:PMap} {a:Act} {w:World},DNow E e N m0 C f' h I ρ a w→(∀s∈b1c o.op.operands.toList,f' s=a38 F s)→
   ∃cz aJ,a.eval f = .func (.func g) cz aJ∧VRels I w ρ (fs++args.toList.map (opv E F)++cs) (cz++args.map a.eval++aJ).toList:=by
   intro C f' h I ρ a w aj hf;have dE:=b36 (E:=E) hf;rw[dA]at dE;have gy:=aj.opvf f;rw[←dE f (by simp[Op.operands,Call.operands]),iQ]at gy;simp only[VRel]at gy;obtain⟨cz,aJ,ei,iR,dY⟩:=gy;have aC:args.toList.map (opv E F)=args.toList.map (opvf E f'):=f3h λx hx=>dE x (by simp[Op.operands,Call.operands];exact .inr (by simpa using hx));refine⟨cz,aJ,ei,?_⟩;simp only[Array.toList_append,f5r];rw[aC];exact VRels.append (VRels.append iR (a51 aj.opvf args.toList)) dY
  rw[cond_eq_ite]at aS;split at aS
  ·rename_i b9;rw[cond_eq_ite]at aS;split at aS
   ·rename_i hg;obtain⟨hH,hσ,ap,v0,H1,e1,e2,e3,e4⟩:=b3l aS;subst hH;refine⟨λ_=>none,0,rfl,rfl,by simp,?_⟩;intro C f' h I ρ a w aj hf hh hC K Q hK;obtain⟨cz,aJ,ei,aC⟩:=i5 aj hf;have aT:∀b o,a01 H' b=some o→h b=some o:=by
     intro b o hb;have ag:b<H'.length:=by
      rcases f4i b H'.length with h'|h'
      ·exact h'
      ·simp[a01,f2n h']at hb
     rw[hh b (by rw[hσ];exact f6z.2 ag)];exact hb
    have hc:=c0c (ae g) aT aj.rel aC e1 e2 e3 e4;obtain⟨i,hi⟩:=f0c.1 hg;rw[b0b (c6m ok hi)]at hc;have bq:(cz++args.map a.eval++aJ).toList.toArray=cz++args.map a.eval++aJ:=by apply f6r;simp
    rw[bq]at hc;refine a7q (by rw[dA];intro c hc;cases hc) ?_;rw[a9y dA ei,a3w ok hg];refine a8b (Calls.mono hc ?_)
    rintro en w' ⟨c,I',rfl,hI,iT,bA,dc⟩
    refine hK I' ρ _ _ ⟨λc hc=>hI c (aj.imm c hc),aj.map,aj.ext.trans aj.imm iT,bA,λb hb hc=>aj.nrel b hb (λh=>hc (.inl h)),aj.fin,by rw[a8h];exact aj.size,?_,by rw[a30];exact aj.marks.mono hI (λc hc=>iT.keep c (.inl hc))⟩;exact b0p (λv c hv=>VRel.mono hI (λc hc=>iT.keep c (.inl hc)) v (λ_ _ h=>h) hv) aj.size aj.frm hd dc
   rename_i bv;split at aS
   case h_2=>cases aS
   rename_i mu kE;cases aS;refine⟨λ_=>none,0,rfl,rfl,by simp,?_⟩;intro C f' h I ρ a w aj hf hh hC K Q hK;obtain⟨cz,aJ,ei,aC⟩:=i5 aj hf;obtain⟨c,ac,dc⟩:=b1r (E:=E) (w:=w) ok b9 (by simpa using bv) kE aC;have bq:(cz++args.map a.eval++aJ).toList.toArray=cz++args.map a.eval++aJ:=by apply f6r;simp
   rw[bq]at ac;refine a7q (by rw[dA];intro c hc;cases hc) ?_;rw[a9y dA ei,ac,Oper.uponIn_value];refine hK I ρ _ _ ⟨aj.imm,aj.map,aj.ext,aj.rel,λb hb hc=>aj.nrel b hb (λh=>hc (.inl h)),aj.fin,by rw[a8h];exact aj.size,?_,by rw[a30];exact aj.marks⟩;exact b0p (λ_ _ h=>h) aj.size aj.frm hd dc
  ·rw[cond_eq_ite]at aS;split at aS
   case isFalse=>cases aS
   rename_i hg;split at aS
   case h_2=>cases aS
   rename_i mu H2 σ2 dW;rw[cond_eq_ite]at aS;split at aS
   case isTrue=>cases aS
   rename_i ai;cases aS;refine tail g _ dW (mE ai) ?_ ?_
   ·intro jp;rw[iQ]at jp;simp only[a6g,e9l,f2u]at jp;exact λb hb=>c3r _ _ (jp.2 b hb)
   intro C f' h I ρ a w aj hf;obtain⟨cz,aJ,ei,aC⟩:=i5 aj hf;refine⟨_,aC,?_⟩;intro R hc K Q hK;obtain⟨i,hi⟩:=f0c.1 hg;rw[b0b (c6m ok hi)]at hc;have bq:(cz++args.map a.eval++aJ).toList.toArray=cz++args.map a.eval++aJ:=by apply f6r;simp
   rw[bq]at hc;refine a7q (by rw[dA];intro c hc;cases hc) ?_;rw[a9y dA ei,a3w ok hg];refine a8b (Calls.mono hc ?_);intro en w' hR;obtain⟨c,rfl,hk⟩:=hK en w' hR;exact hk
 ·split at hs
  case h_2=>cases hs
  rename_i v' eff ha;rw[cond_eq_ite]at hs;split at hs
  case isFalse=>cases hs
  rename_i bP;cases hs;refine⟨c7l H.length eff,eff.nf,e15 bP,?_,λb hb=>c99 hb,d6r ok bg bY hd ha⟩;rw[a98];unfold Eff.nf;split<;>rfl
end
end Go.Ax
/- AxDraw3: the whole of a region that draws its order. -/
namespace Go.Ax
section
variable {E:Env}{e:Entry}{N m0:Nat}{am:Array Oper}{Q:Exit→Act→World→Prop}{f0:Nat→AV}{h0:FHeap}
structure RecOk(E:Env)(ro:Option Nat)(e:Entry)(N m0:Nat)(am:Array Oper)(Q:Exit→Act→World→Prop)(f0:Nat→AV)(h0:FHeap)(p:List Rec)(i:Nat)(r:Rec):Prop where
 dst:∀o,am[i]?=some o→r.dst=o.dst
 keys:∀b,(r.ov b).isSome=true→b∈r.log.keys
 good:∀{C:Nat→Prop} {f:Nat→AV} {h:FHeap} {I:Nat→Prop} {ρ:PMap} {a:Act} {w:World},DNow E e N m0 C f h I ρ a w→(∀o,am[i]?=some o→∀s∈looks am.toList o,f s=gL fov f0 a48 p s)→
  (∀b∈r.log.needs,h b=gL hov h0 a48 p b)→(∀b,cnt m0 p≤b→b<cnt m0 p+r.fresh→¬C b)→
  ∀{K:Act→World→Prop},(∀I' ρ' a' w',DNow E e N m0 (λb=>C b∨(cnt m0 p≤b∧b<cnt m0 p+r.fresh)) (λs=>(fov r s).getD (f s)) (λb=>(hov r b).getD (h b)) I' ρ' a' w'→K a' w')→wpOpIn (wf ro) 0 E.P am Q i K a w
def RecsOk(E:Env)(ro:Option Nat)(e:Entry)(N m0:Nat)(am:Array Oper)(Q:Exit→Act→World→Prop)(f0:Nat→AV)(h0:FHeap)(aH:List Rec):Prop:=∀i r,nth aH i=some r→RecOk E ro e N m0 am Q f0 h0 (pre aH i) i r
theorem RecsOk.cons{ro:Option Nat}{aH:List Rec}{r:Rec}(h:RecsOk E ro e N m0 am Q f0 h0 aH)(hr:RecOk E ro e N m0 am Q f0 h0 aH aH.length r):RecsOk E ro e N m0 am Q f0 h0 (r::aH):=by
 intro i r' hi;unfold nth at hi;simp only[pre];split at hi
 ·rename_i he;cases hi;rw[f1r he,he];exact hr
 ·rename_i he;rw[f0j he];exact h i r' hi
theorem c4z:∀{l:List Rec},m0≤cnt m0 l
 | []=>f1u _
 |r::af=>by have:=c4z (l:=af);simp only[cnt];omega
theorem c3j{I:Nat→Prop}{w:World}{ρ:PMap}{a:Act}{v:AV}{j d:Nat}(hg:a2y am.toList j=some d)(hv:VRel I w ρ v (a.tmps.getD d undef)) :
 (∀b,v = .bool b→yielded am a.tmps j=some b)∧(v = .tuple []→yielded am a.tmps j=none):=by
 have hd:(am[j]?).bind (·.dst)=some d:=by simpa[a2y]using hg
 have aG:∀c,a.tmps.getD d undef=c→c≠undef→a.tmps[d]?=some c:=by
  intro c hc au;rw[f2y]at hc;cases hx:a.tmps[d]? with
  |none=>rw[hx]at hc;exact absurd hc.symm au
  |some x=>rw[hx]at hc;simpa using hc
 refine⟨λb hb=>?_,λhb=>?_⟩
 ·rw[hb]at hv;simp only[VRel]at hv;have:=aG _ hv (by simp[undef]);simp[yielded,hd,this]
 ·rw[hb]at hv;simp only[VRel]at hv;obtain⟨cs,hc,dY⟩:=hv;unfold yielded;rw[hd];simp only[f5m];rw[f2y]at hc;cases hx:a.tmps[d]? with
  |none=>rfl
  |some x=>rw[hx]at hc;simp only[f3i]at hc;rw[hc]
theorem c9u{o:Oper}{s:Nat}(h:s∈b1c o.op.operands.toList):s∈looks am.toList o:=List.mem_append_left _ h
theorem c2i{o:Oper}{j d:Nat}{bj:Bool}(hg:o.guard=some (j,bj))(hs:a2y am.toList j=some d):d∈looks am.toList o:=by simp[looks,hg,hs]
theorem a8z(ok:EnvOk E){ro:Option Nat}{call:FuncId→List AV→a02→Option (AV×a02)}(ae:a35 E call)(bg:e.m≤m0){R:Type}{k:Frm→a02→Option R}{r:R} :
 ∀(af:List Oper) (aH:List Rec) (F:Frm) (H:a02),af=am.toList.drop aH.length→aH.length+af.length=am.size→a38 F=gL fov f0 a48 aH→a01 H=gL hov h0 a48 aH→H.length=cnt m0 aH→
  RecsOk E ro e N m0 am Q f0 h0 aH→a2e E true N call am.toList af (aH.map (·.log)) F H k=some r→
  ∃a6 F' H',a6.length=am.size∧a38 F'=gL fov f0 a48 a6∧a01 H'=gL hov h0 a48 a6∧H'.length=cnt m0 a6∧RecsOk E ro e N m0 am Q f0 h0 a6∧
   logOk am.toList (a6.map (·.log)).length (a6.map (·.log))=true∧k F' H'=some r
 | [],aH,F,H,_,ai,hF,hH,hn,di,ac=>by
  simp only[a2e,f6m,Bool.false_or]at ac;rw[cond_eq_ite]at ac;split at ac
  case isFalse=>cases ac
  rename_i iG;exact⟨aH,F,H,by simpa using ai,hF,hH,hn,di,iG,ac⟩
 |o::af,aH,F,H,cE,ai,hF,hH,hn,di,ac=>by
  have ho:am[aH.length]?=some o:=by
   have:(am.toList.drop aH.length)[0]?=some o:=by rw[←cE];rfl
   rw[f6i]at this;simpa using this
  have eV:af=am.toList.drop (aH.length+1):=by
   have:(am.toList.drop aH.length).drop 1=af:=by rw[←cE];rfl
   rw[List.drop_drop]at this;exact this.symm
  unfold a2e at ac;rw[cond_eq_ite]at ac;split at ac
  case isFalse=>cases ac
  rename_i hd;simp only[e9m]at ai
  -- a step that is executed,and one that is not
  have exec:∀F0,a38 F0=a38 F→(match a0u E true call F0 H o.op with
   |some (v,H',l)=>a2e E true N call am.toList af (l::aH.map (·.log)) (a3l F0 o.dst v) H' k
   |none=>none)=some r→
   (∀{I:Nat→Prop} {w:World} {ρ:PMap} {a:Act} {f:Nat→AV},(∀s∈looks am.toList o,f s=gL fov f0 a48 aH s)→(∀s,VRel I w ρ (f s) (a.tmps.getD s undef))→Region.wanted o (yielded am a.tmps)=true)→
   ∃a6 F' H',a6.length=am.size∧a38 F'=gL fov f0 a48 a6∧a01 H'=gL hov h0 a48 a6∧H'.length=cnt m0 a6∧RecsOk E ro e N m0 am Q f0 h0 a6∧
    logOk am.toList (a6.map (·.log)).length (a6.map (·.log))=true∧k F' H'=some r:=by
   intro F0 o6 hr hw;split at hr
   case h_2=>cases hr
   rename_i v H' l hs;obtain⟨ov,fresh,h1,h2,h3,h4⟩:=c8a (ro:=ro) (e:=e) (N:=N) (m0:=m0) ok ae bg (by rw[hn];exact c4z) hs hd;refine a8z ok ae bg af (⟨o.dst,v,ov,fresh,l⟩::aH) (a3l F0 o.dst v) H' (by simpa using eV) (by simp only[e9m];omega) ?_ ?_ ?_ (di.cons ?_) hr
   ·simp only[gL,a48,f4b];rw[←hF,←o6]
    funext s
    cases lw:o.dst with
    |none=>simp[a3l,fov]
    |some d=>rw[a82];simp only[fov,Option.some.injEq];split<;>rfl
   ·simp only[gL,a48,f4b];rw[←hH];exact h1
   ·simp only[cnt];rw[←hn];exact h2
   ·refine⟨λo' dT=>by rw[ho]at dT;cases dT;rfl,h3,?_⟩;intro C f h I ρ a w aj hf hh hC K hK;have hf:=hf o ho;unfold wpOpIn;simp only[ho];rw[f1r (hw hf aj.frm)];refine(h4 aj (λs hs=>by rw[hf s (c9u hs),o6,hF]) (λb hb=>by rw[hh b hb,hH]) (by rw[hn];exact hC) ?_);rw[hn];exact hK
  have skip:∀F0,a38 F0=a38 F→a2e E true N call am.toList af (⟨[],[]⟩::aH.map (·.log)) (a3l F0 o.dst (.tuple [])) H k=some r→
   (∀{I:Nat→Prop} {w:World} {ρ:PMap} {a:Act} {f:Nat→AV},(∀s∈looks am.toList o,f s=gL fov f0 a48 aH s)→(∀s,VRel I w ρ (f s) (a.tmps.getD s undef))→Region.wanted o (yielded am a.tmps)=false)→
   ∃a6 F' H',a6.length=am.size∧a38 F'=gL fov f0 a48 a6∧a01 H'=gL hov h0 a48 a6∧H'.length=cnt m0 a6∧RecsOk E ro e N m0 am Q f0 h0 a6∧
    logOk am.toList (a6.map (·.log)).length (a6.map (·.log))=true∧k F' H'=some r:=by
   intro F0 o6 hr hw;refine a8z ok ae bg af (⟨o.dst,.tuple [],λ_=>none,0,⟨[],[]⟩⟩::aH) (a3l F0 o.dst (.tuple [])) H (by simpa using eV) (by simp only[e9m];omega) ?_ ?_ ?_ (di.cons ?_) hr
   ·simp only[gL,a48,f4b];rw[←hF,←o6]
    funext s
    cases lw:o.dst with
    |none=>simp[a3l,fov]
    |some d=>rw[a82];simp only[fov,Option.some.injEq];split<;>rfl
   ·simp only[gL,a48,f4b];rw[←hH];rfl
   ·simp only[cnt];exact hn
   ·refine⟨λo' dT=>by rw[ho]at dT;cases dT;rfl,by simp,?_⟩;intro C f h I ρ a w aj hf hh hC K hK;have hf:=hf o ho;unfold wpOpIn;simp only[ho];rw[f0j (by rw[hw hf aj.frm];simp)];refine⟨λf _=>d8o ro f,?_⟩;refine hK I ρ _ _ ⟨aj.imm,aj.map,aj.ext,aj.rel,λb hb hc=>aj.nrel b hb (λh=>hc (.inl h)),aj.fin,by rw[a8h];exact aj.size,?_,by rw[a30];exact aj.marks⟩;exact b0p (λ_ _ h=>h) aj.size aj.frm hd (by simp only[VRel,undef];exact⟨#[],rfl,by simp[VRels]⟩)
  split at ac
  ·rename_i hg;exact exec F rfl ac (λ_ _=>by simp[Region.wanted,hg])
  ·rename_i j bj hg;split at ac
   case h_1=>cases ac
   rename_i d nw;have gA:=c2i (o:=o) hg nw;split at ac
   ·rename_i b hb;have hw:∀{I:Nat→Prop} {w:World} {ρ:PMap} {a:Act} {f:Nat→AV},(∀s∈looks am.toList o,f s=gL fov f0 a48 aH s)→(∀s,VRel I w ρ (f s) (a.tmps.getD s undef))→Region.wanted o (yielded am a.tmps)=(b==bj):=by
     intro I w ρ a f hf hv;have nD:f d = .bool b:=by rw[hf d gA,←hF,hb]
     have:=(c3j nw (hv d)).1 b nD;simp[Region.wanted,hg,this]
    have a7:a38 (a3l F (some d) (.bool b))=a38 F:=by
     funext s
     rw[a82];split
     ·rename_i hs;rw[←hs,hb]
     ·rfl
    cases b
    ·simp only[f2z]at ac;cases bj
     ·simp only[f2z]at ac;exact exec _ a7 ac (λhf hv=>by rw[hw hf hv];rfl)
     ·simp only[f2m]at ac;exact skip _ a7 ac (λhf hv=>by rw[hw hf hv];rfl)
    ·simp only[f2m]at ac;cases bj
     ·simp only[f2z]at ac;exact skip _ a7 ac (λhf hv=>by rw[hw hf hv];rfl)
     ·simp only[f2m]at ac;exact exec _ a7 ac (λhf hv=>by rw[hw hf hv];rfl)
   ·rename_i hb;refine skip F rfl ac (λ{I w ρ a f} hf hv=>?_);have nD:f d = .tuple []:=by rw[hf d gA,←hF,hb]
    have:=(c3j nw (hv d)).2 nD;simp[Region.wanted,hg,this]
   ·cases ac
theorem a4q{aH:List Rec}:∀{i:Nat} {r:Rec},nth aH i=some r→nth (aH.map (·.log)) i=some r.log:=by
 induction aH with
 |nil=>intro i r h;simp[nth]at h
 |cons a af ih=>
  intro i r h;unfold nth at h;simp only[e12,nth,c11];split at h
  ·rename_i hi;cases h;rw[f1r hi]
  ·rename_i hi;rw[f0j hi];exact ih h
theorem b3c{a b:List Nat}{x:Nat}(h1:x∈a)(h2:x∈b):b3d a b=true:=by simp only[b3d,List.any_eq_true,a2s];exact⟨x,h1,h2⟩
theorem DNow.weaken{C C':Nat→Prop}{f:Nat→AV}{h:FHeap}{I:Nat→Prop}{ρ:PMap}{a:Act}{w:World}(d:DNow E e N m0 C f h I ρ a w)(hC:∀b,C b→C' b):DNow E e N m0 C' f h I ρ a w:={ d with nrel:=λb hb hc=>d.nrel b hb (λh=>hc (hC b h)) }
theorem b69{S:Nat→Bool}{b:Nat}:∀{l:List Rec},c45 m0 S l b→c45 m0 a48 l b
 | [],h=>h
 |_::_,h=>h.imp (λ⟨_,h2⟩=>⟨rfl,h2⟩) b69
theorem d5o{ro:Option Nat}(aw:c4u am.toList=true){aH:List Rec}(ai:aH.length=am.size)(di:RecsOk E ro e N m0 am Q f0 h0 aH)(iG:logOk am.toList (aH.map (·.log)).length (aH.map (·.log))=true)
 (hQ:∀I ρ a w,DNow E e N m0 (c45 m0 a48 aH) (gL fov f0 a48 aH) (gL hov h0 a48 aH) I ρ a w→Q .normal a w) :
 ∀(aZ:Nat) (aA:Array Bool) (I:Nat→Prop) (ρ:PMap) (a:Act) (w:World),aA.size=am.size→((List.range am.size).filter λi=>!aA.getD i false).length≤aZ→
  (∀j,aA.getD j false=true→a7l am.toList (λi=>aA.getD i false) j)→
  DNow E e N m0 (c45 m0 (λi=>aA.getD i false) aH) (gL fov f0 (λi=>aA.getD i false) aH) (gL hov h0 (λi=>aA.getD i false) aH) I ρ a w→
  wpAnyIn (wf ro) 0 E.P .any am Q aZ aA a w:=by
 have done:∀(aA:Array Bool) (I:Nat→Prop) (ρ:PMap) (a:Act) (w:World),(∀i,i<am.size→aA.getD i false=true)→
  DNow E e N m0 (c45 m0 (λi=>aA.getD i false) aH) (gL fov f0 (λi=>aA.getD i false) aH) (gL hov h0 (λi=>aA.getD i false) aH) I ρ a w→Q .normal a w:=by
  intro aA I ρ a w aR aj;have bS:∀j,j<aH.length→(λi=>aA.getD i false) j=a48 j:=λj hj=>by rw[ai]at hj;exact aR j hj
  rw[b8d bS,b8d bS]at aj;exact hQ I ρ a w (aj.weaken λb=>b69)
 intro aZ
 induction aZ with
 |zero=>
  intro aA I ρ a w bJ lB bL aj;have aR:∀i,i<am.size→aA.getD i false=true:=by
   intro i hi;cases hx:aA.getD i false with
   |true=>rfl
   |false=>
    have:i∈(List.range am.size).filter λi=>!aA.getD i false:=by rw[f4p,f6z];exact⟨hi,by rw[hx];rfl⟩
    have:=List.length_pos_of_mem this;omega
  have fZ:Region.ready .any am aA=[]:=by
   cases hr:Region.ready .any am aA with
   |nil=>rfl
   |cons i af=>
    have:i∈Region.ready .any am aA:=by rw[hr];simp
    obtain⟨h1,o,h2,_⟩:=mem_ready.1 this;have hi:=(f3d.1 h2).1;have:=aR i hi;simp only[f2y,Array.getElem?_eq_getElem (show i<aA.size by omega),f3i]at h1 this;rw[this]at h1;cases h1
  exact⟨fZ,done aA I ρ a w aR aj⟩
 |succ aZ ih=>
  intro aA I ρ a w bJ lB bL aj;refine⟨λfZ=>done aA I ρ a w ?_ aj,λi hi=>?_⟩
  ·intro i
   induction i using Nat.strongRecOn with
   |_ i ihi=>
    intro hi;cases hx:aA.getD i false with
    |true=>rfl
    |false=>
     exfalso;have cF:i∈Region.ready .any am aA:=by
      refine mem_ready.2 ⟨?_,am[i],by simp[hi],λe he hb=>?_⟩
      ·simpa only[f2y,Array.getElem?_eq_getElem (show i<aA.size by omega),f3i]using hx
      ·have:=(b01 aw (j:=i) (y:=am[i]) (by simp[hi])).1 e (by simpa using he) hb;exact ihi e.on this (by omega)
     rw[fZ]at cF;cases cF
  ·obtain⟨h1,o,ho,lu⟩:=mem_ready.1 hi;have gQ:=(f3d.1 ho).1;have dS:am.toList[i]?=some o:=by simpa using ho
   generalize hS:(λi=>aA.getD i false)=S at bL aj;have jJ:S i=false:=by rw[←hS];simp only[f2y,Array.getElem?_eq_getElem (show i<aA.size by omega),f3i]at h1⊢;exact h1
   have jG:∀j,S j=true→a7l am.toList S j:=by intro j hj;rw[←hS]at hj;exact bL j hj
   have nN:a7l am.toList S i:=by intro o' dT e he hb;rw[dS]at dT;cases dT;rw[←hS];exact lu e (by simpa using he) hb
   obtain⟨r,hr⟩:=c42 (l:=aH) (i:=i) (by omega);have kQ:=di i r hr;have mz:∀j r',nth aH j=some r'→∃o',am.toList[j]?=some o'∧r'.dst=o'.dst:=by
    intro j r' hj;have bu:=b37 hj;have:am[j]?=some am[j]:=by simp
    exact⟨am[j],by simp,(di j r' hj).dst _ this⟩
   have bt:∀j,a4c am.toList j i=true→S j=true:=λj h=>b64 jG nN h;have after:∀j,a4c am.toList i j=true→S j=false:=by
    intro j h;cases hx:S j with
    |false=>rfl
    |true=>rw[b64 jG (jG j hx) h]at jJ;cases jJ
   refine kQ.good aj ?_ ?_ ?_ ?_
   ·intro o' dT s hs;rw[ho]at dT;cases dT;refine e0q hr λj r' hj hd=>?_;obtain⟨oj,rF,tQ⟩:=mz j r' hj;have cZ:oj.dst=some s:=by
     rw[←tQ];unfold fov at hd;split at hd
     ·assumption
     ·simp at hd
    refine⟨λgv=>bt j ?_,λbB=>?_⟩
    ·refine(b01 aw dS).2 j oj rF gv ?_;simp only[a5p,cZ,f6q,List.contains_iff_mem];exact .inl (.inl hs)
    ·rcases Nat.lt_or_eq_of_le bB with ag|rfl
     ·refine after j ((b01 aw rF).2 i o dS ag ?_);simp only[a5p,cZ,f6q,List.contains_iff_mem];exact .inl (.inr hs)
     ·exact jJ
   ·intro b hb;refine e0q hr λj r' hj hd=>?_;have bZ:=(di j r' hj).keys b hd;refine⟨λgv=>bt j ?_,λbB=>?_⟩
    ·refine b28 iG j i _ _ gv (a4q hj) (a4q hr) ?_;simp only[LogE.clash,b3c bZ hb,Bool.true_or]
    ·rcases Nat.lt_or_eq_of_le bB with ag|rfl
     ·refine after j (b28 iG i j _ _ ag (a4q hr) (a4q hj) ?_);simp only[LogE.clash,b3c hb bZ,Bool.or_true]
     ·exact jJ
   ·intro b cj cN hm;rw[c9r hr cj cN hm]at jJ;cases jJ
   ·intro I' ρ' a' w' m8;have oY:(λj=>(aA.setIfInBounds i true).getD j false)=b9x S i:=by
     funext j
     rw[←hS];simp only[b9x,f2y,f3c];by_cases bB:i=j
     ·subst bB;simp[show i<aA.size by omega]
     ·rw[f0j bB,f3k.2 (f4j bB),Bool.false_or]
    refine ih _ I' ρ' a' w' (by simpa using bJ) ?_ ?_ ?_
    ·have qm:((List.range am.size).filter λj=>!(aA.setIfInBounds i true).getD j false)=((List.range am.size).filter λj=>!aA.getD j false).filter λj=>!(j==i):=by
      rw[List.filter_filter];refine List.filter_congr λj _=>?_;have h1:=congrFun oY j;have h2:=congrFun hS j;rw[h1,h2];simp[b9x]
     rw[qm];have:(((List.range am.size).filter λj=>!aA.getD j false).filter λj=>!(j==i)).length<((List.range am.size).filter λj=>!aA.getD j false).length:=by refine List.length_filter_lt_length_iff_exists.2 ⟨i,?_,by simp⟩;rw[f4p,f6z];refine⟨gQ,?_⟩;have h2:=congrFun hS i;rw[h2,jJ];rfl
     omega
    ·rw[oY];have j3:∀j,a7l am.toList S j→a7l am.toList (b9x S i) j:=λj h o ho e he hb=>by simp[b9x,h o ho e he hb]
     intro j hj;have hj:b9x S i j=true:=by rw[←oY];exact hj
     simp only[b9x,f6q,f6k]at hj;rcases hj with rfl|hj
     ·exact j3 _ nN
     ·exact j3 _ (jG j hj)
    ·rw[oY];rw[d10 hr jJ ?_,d10 hr jJ ?_]
     ·exact m8.weaken λb hb=>c06 hr hb
     ·intro k r' hk gh qM s hs;cases hx:hov r' s with
      |none=>rfl
      |some ob=>have h1:=kQ.keys s hs;have h2:=(di k r' hk).keys s (by unfold hov at hx;rw[hx];rfl);have:=after k (b28 iG i k _ _ gh (a4q hr) (a4q hk) (by simp only[LogE.clash,b3c h1 h2,Bool.or_true,Bool.true_or]));rw[qM]at this;cases this
     ·intro k r' hk gh qM s hs;cases hx:fov r' s with
      |none=>rfl
      |some v=>
       obtain⟨ok,tn,tP⟩:=mz k r' hk;have h1:o.dst=some s:=by
        rw[←kQ.dst o ho];unfold fov at hs;split at hs
        ·assumption
        ·simp at hs
       have h2:ok.dst=some s:=by
        rw[←tP];unfold fov at hx;split at hx
        ·assumption
        ·cases hx
       have:=after k ((b01 aw tn).2 i o dS gh (by simp[a5p,h1,h2]));rw[qM]at this;cases this
theorem c21(ok:EnvOk E){ro:Option Nat}{call:FuncId→List AV→a02→Option (AV×a02)}(ae:a35 E call){R:Type}{k:Frm→a02→Option R}{r:R}{F:Frm}{H:a02}{I:Nat→Prop}{ρ:PMap}{a:Act}{w:World}
 (aw:c4u am.toList=true)(hQ:∀F H I ρ a w,Now E e N F H I ρ a w→k F H=some r→Q .normal a w)(aj:Now E e N F H I ρ a w)(ac:a2e E true N call am.toList am.toList [] F H k=some r)(id:Nat) :
 (Code.region id am true).wpIn (wf ro) 0 E.P Q a w:=by
 refine wpIn_region_any ok.mixed ?_;obtain⟨aH,F',H',h1,h2,h3,h4,h5,h6,h7⟩:=a8z (ro:=ro) (e:=e) (N:=N) (m0:=H.length) (Q:=Q) (f0:=a38 F) (h0:=a01 H) ok ae aj.low am.toList [] F H (by simp) (by simp) rfl rfl rfl (λi r h=>by simp[nth]at h) ac;have iS:∀i,(Array.replicate am.size false).getD i false=false:=by intro i;simp only[f2y,Array.getElem?_replicate];split<;>rfl
 have dk:∀{V:Type} (o:Rec→Nat→Option V) (g0:Nat→V) (l:List Rec),gL o g0 (λi=>(Array.replicate am.size false).getD i false) l=g0:=by
  intro V o g0 l
  induction l with
  |nil=>rfl
  |cons a af ih=>unfold gL;rw[f0j (by rw[iS];simp)];exact ih
 refine d5o aw h1 h5 h6 ?_ am.size _ I ρ a _ (by simp) ?_ ?_ ?_
 ·intro I' ρ' a' w' hd;refine hQ F' H' I' ρ' a' w' ⟨hd.imm,hd.map,hd.ext,?_,?_,⟨hd.size,λs=>by rw[h2];exact hd.frm s⟩,?_,hd.marks⟩ h7
  ·rw[h3];exact hd.rel
  ·intro b hb;have gX:H.length≤cnt H.length aH:=c4z;refine hd.nrel b (by omega) (λhm=>?_);have:=c2h hm;omega
  ·have gX:H.length≤cnt H.length aH:=c4z;have:=aj.low;omega
 ·refine f7j (List.length_filter_le _ _) (by simp)
 ·intro j hj;have:=iS j;rw[this]at hj;cases hj
 ·have du:=aj.drew;rw[dk,dk];exact⟨du.imm,du.map,du.ext,du.rel,λb hb _=>du.nrel b hb,⟨_,du.nrel⟩,du.frm.1,du.frm.2,du.marks⟩
end
end Go.Ax
/- AxMark: what a loop over a function leaves behind: blocks for deferred calls, shut when the function ends. -/
namespace Go.Ax
section
variable {I:Nat→Prop}{w w':World}
def SameD(w w':World)(c:Nat):Prop:=w'.heap[c]?=w.heap[c]?∨∃d,w.heap[c]?=some (.deferred d)
theorem SameD.map{c:Nat}{es:Array MapEntry}{cl:Nat}(h:SameD w w' c)(hc:w.heap[c]?=some (.map es cl)):w'.heap[c]?=some (.map es cl):=by
 rcases h with h|⟨d,h⟩
 ·rw[h,hc]
 ·rw[hc]at h;cases h
theorem SameD.cell{b o:Nat}{c:Value}(h:SameD w w' b)(hc:w.cell? ⟨b,o,none⟩=some c):w'.cell? ⟨b,o,none⟩=some c:=by
 rcases h with h|⟨d,h⟩
 ·rw[b4l h,hc]
 ·simp[World.cell?,h]at hc
mutual
theorem VRel.monoD(hw:∀c,I c→SameD w w' c):∀{ρ:PMap} (v:AV) {c:Value},VRel I w ρ v c→VRel I w' ρ v c
 |ρ,v,c,h=>by
  cases v with
  |junk=>simp[VRel]
  |bool b=>simpa[VRel]using h
  |int k n=>simpa[VRel]using h
  |str s=>simpa[VRel]using h
  |nilptr=>simpa[VRel]using h
  |nilslice=>simpa[VRel]using h
  |nilmap=>simpa[VRel]using h
  |nilfunc=>simpa[VRel]using h
  |nilifc=>simpa[VRel]using h
  |ptr b i o=>simpa only[VRel]using h
  |iptr cs=>simp only[VRel]at h⊢;obtain⟨b,off,rfl,hb,h⟩:=h;exact⟨b,off,rfl,hb,VAt.monoD hw cs (hw _ hb) h⟩
  |slice b off len cap=>simpa only[VRel]using h
  |islice rows cap=>
   simp only[VRel]at h⊢;obtain⟨a,n,k,rfl,h1,h2,h3⟩:=h;refine⟨a,n,k,rfl,h1,h2,h3.imp id ?_⟩
   rintro⟨hs,hb,h⟩
   exact⟨hs,hb,VRows.monoD hw rows (hw _ hb) h⟩
  |map b=>simpa only[VRel]using h
  |imap ks vs bs bh=>simp only[VRel]at h⊢;obtain⟨b,es,rfl,hb,he,h1,h2,h3⟩:=h;exact⟨b,es,rfl,hb,(hw _ hb).map he,VRels.monoD hw ks h1,VRels.monoD hw vs h2,h3⟩
  |iset ks=>simp only[VRel]at h⊢;obtain⟨b,es,cl,rfl,hb,he,h1⟩:=h;exact⟨b,es,cl,rfl,hb,(hw _ hb).map he,h1⟩
  |yfn b=>simpa only[VRel]using h
  |func fn fs cs=>simp only[VRel]at h⊢;obtain⟨cz,aJ,rfl,h1,h2⟩:=h;exact⟨cz,aJ,rfl,VRels.monoD hw fs h1,VRels.monoD hw cs h2⟩
  |iface t x=>simp only[VRel]at h⊢;obtain⟨x',rfl,h⟩:=h;exact⟨x',rfl,VRel.monoD hw x h⟩
  |agg cs=>simp only[VRel]at h⊢;obtain⟨aJ,rfl,h⟩:=h;exact⟨aJ,rfl,VRels.monoD hw cs h⟩
  |tuple cs=>simp only[VRel]at h⊢;obtain⟨aJ,rfl,h⟩:=h;exact⟨aJ,rfl,VRels.monoD hw cs h⟩
theorem VRels.monoD(hw:∀c,I c→SameD w w' c):∀{ρ:PMap} (vs:List AV) {cs:List Value},VRels I w ρ vs cs→VRels I w' ρ vs cs
 |ρ,[],cs,h=>by simpa[VRels]using h
 |ρ,v::vs,cs,h=>by simp only[VRels]at h⊢;obtain⟨c,aJ,rfl,h1,h2⟩:=h;exact⟨c,aJ,rfl,VRel.monoD hw v h1,VRels.monoD hw vs h2⟩
theorem VAt.monoD(hw:∀c,I c→SameD w w' c):∀{ρ:PMap} (vs:List AV) {b off:Nat},SameD w w' b→VAt I w ρ vs b off→VAt I w' ρ vs b off
 |ρ,[],b,off,hb,h=>by simp[VAt]
 |ρ,v::vs,b,off,hb,h=>by simp only[VAt]at h⊢;obtain⟨⟨c,hc,h1⟩,h2⟩:=h;exact⟨⟨c,hb.cell hc,VRel.monoD hw v h1⟩,VAt.monoD hw vs hb h2⟩
theorem VRows.monoD{k:Nat}(hw:∀c,I c→SameD w w' c):∀{ρ:PMap} (rs:List (List AV)) {b off:Nat},SameD w w' b→VRows I w k ρ rs b off→VRows I w' k ρ rs b off
 |ρ,[],b,off,hb,h=>by simp[VRows]
 |ρ,r::rs,b,off,hb,h=>by simp only[VRows]at h⊢;obtain⟨h0,h1,h2⟩:=h;exact⟨h0,VAt.monoD hw r hb h1,VRows.monoD hw rs hb h2⟩
end
theorem ORel.monoD{G:GTab (List AV)}{ρ:PMap}{m:Pl}(hw:∀c,I c→SameD w w' c)(o:AObj)(hb:w'.heap[m.blk]?=w.heap[m.blk]?)(h:ORel G I w ρ m o):ORel G I w' ρ m o:=by
 cases o with
 |row k rows=>obtain⟨h1,h2,⟨bR,e,h3,h4⟩,h5⟩:=h;exact⟨h1,h2,⟨bR,e,by rw[hb,h3],h4⟩,VRows.monoD hw rows (.inl hb) h5⟩
 |map ks vs bs bh=>obtain⟨es,h1,h2,h3,h4⟩:=h;exact⟨es,by rw[hb,h1],VRels.monoD hw ks h2,VRels.monoD hw vs h3,h4⟩
 |siter s pos=>obtain⟨h0,t,h1,h2⟩:=h;exact⟨h0,t,by rw[hb,h1],h2⟩
 |uset ks=>obtain⟨es,cl,h1,h2⟩:=h;exact⟨es,cl,by rw[hb,h1],h2⟩
 |miter ks cG cT=>
  obtain⟨h0,h⟩:=h;rcases h with ⟨h1,h2,h3⟩|⟨c,es,cl,seen,h1,h2,h3,h4,h5⟩
  ·exact⟨h0,.inl ⟨h1,h2,by rw[hb,h3]⟩⟩
  ·exact⟨h0,.inr ⟨c,es,cl,seen,h1,(hw c h1).map h2,h3,by rw[hb,h4],h5⟩⟩
 |yloop y F st=>obtain⟨ri,r,h0,h1,h2,h3,h4,h5,h6,h7⟩:=h;exact⟨ri,r,h0,by rw[hb,h1],h2,h3,h4,h5,λs=>VRel.monoD hw _ (h6 s),h7⟩
end
section
variable {G:GTab (List AV)}{I K:Nat→Prop}{ρ:PMap}{h:FHeap}{w w':World}
theorem HRel.shut(r:HRel G I K ρ h w){S:Nat→Prop}(hS:∀c,S c→I c∧∃d,w.heap[c]?=some (.deferred d))(aN:w'.heap.size=w.heap.size)(hw:∀c,¬S c→w'.heap[c]?=w.heap[c]?) :
 HRel G I K ρ h w':=by
 have hD:∀c,SameD w w' c:=by
  intro c;by_cases hc:S c
  ·exact .inr (hS c hc).2
  ·exact .inl (hw c hc)
 refine⟨?_,r.inj,λb m hb=>by rw[aN];exact r.dom b m hb,λc hc=>by rw[aN];exact r.imm c hc,λc hc=>by rw[aN];exact r.kept c hc,r.apart,?_⟩
 ·intro b o hb;obtain⟨m,h1,h2,h3,h4⟩:=r.live b o hb;exact⟨m,h1,h2,h3,ORel.monoD (λc _=>hD c) o (hw _ (λhc=>h2 (hS _ hc).1)) h4⟩
 ·intro g cs hg;obtain⟨h1,h2⟩:=r.glob g cs hg;exact⟨h1,VAt.monoD (λc _=>hD c) cs (hD g) h2⟩
theorem c1u(r:HRel G I K ρ h w){ob:Obj}(hw:w'.heap=w.heap.push ob)(ht:w'.tape=w.tape)(eB:w'.os=w.os)(aE:w'.output=w.output) :
 Stepped G I K ρ w (λc=>I c∨c=w.heap.size) ρ h w':=by
 have aF:∀c,c<w.heap.size→w'.heap[c]?=w.heap[c]?:=by intro c hc;rw[hw,f6x,f0j (by omega)]
 refine⟨λ_ h=>.inl h,λ_ _ h=>h,⟨eB,ht,aE,by rw[hw];simp,?_⟩,⟨?_,r.inj,?_,?_,?_,?_,?_⟩⟩
 ·rintro c (hc|hc)
  ·exact aF c (r.imm c hc)
  ·exact aF c (r.kept c hc)
 ·intro b o hb;obtain⟨m,h1,h2,h3,h4⟩:=r.live b o hb;have hd:=r.dom b m h1;exact⟨m,h1,λhc=>hc.elim h2 (λe=>by omega),h3,ORel.mono o (λ_ h=>.inl h) (λc hc=>aF c (r.imm c hc)) (λ_ _ h=>h) (aF _ hd) h4⟩
 ·intro b m hb;have:=r.dom b m hb;rw[hw];simp only[Array.size_push];omega
 ·rintro c (hc|rfl)
  ·have:=r.imm c hc;rw[hw];simp only[Array.size_push];omega
  ·rw[hw];simp
 ·intro c hc;have:=r.kept c hc;rw[hw];simp only[Array.size_push];omega
 ·rintro c (hc|rfl) hk
  ·exact r.apart c hc hk
  ·have:=r.kept _ hk;omega
 ·intro g cs hg;obtain⟨h1,h2⟩:=r.glob g cs hg;exact⟨.inl h1,VAt.mono (λ_ h=>.inl h) (λc hc=>aF c (r.imm c hc)) cs (λ_ _ h=>h) (aF g (r.imm g h1)) h2⟩
theorem b9f(r:HRel G I K ρ h w){c0:Nat}(hI:¬I c0)(hK:¬K c0)(hl:∀b o m,h b=some o→ρ b=some m→m.blk≠c0)(aN:w'.heap.size=w.heap.size)
 (hw:∀c,c≠c0→w'.heap[c]?=w.heap[c]?)(ht:w'.tape=w.tape)(eB:w'.os=w.os)(aE:w'.output=w.output):Stepped G I K ρ w I ρ h w':=by
 have bM:∀c,I c→w'.heap[c]?=w.heap[c]?:=λc hc=>hw c (λe=>hI (e▸hc));refine⟨λ_ h=>h,λ_ _ h=>h,⟨eB,ht,aE,by omega,?_⟩,⟨?_,r.inj,λb m hb=>by rw[aN];exact r.dom b m hb,λc hc=>by rw[aN];exact r.imm c hc,λc hc=>by rw[aN];exact r.kept c hc,r.apart,?_⟩⟩
 ·rintro c (hc|hc)
  ·exact bM c hc
  ·exact hw c (λe=>hK (e▸hc))
 ·intro b o hb;obtain⟨m,h1,h2,h3,h4⟩:=r.live b o hb;exact⟨m,h1,h2,h3,ORel.mono o (λ_ h=>h) bM (λ_ _ h=>h) (hw _ (hl b o m hb h1)) h4⟩
 ·intro g cs hg;obtain⟨h1,h2⟩:=r.glob g cs hg;exact⟨h1,VAt.mono (λ_ h=>h) bM cs (λ_ _ h=>h) (bM g h1) h2⟩
end
/-! ### a function's end -/
def a2r:List Nat→World→World
 | [],w=>w
 |r::rs,w=>a2r rs (w.putObj r (.deferred none))
theorem b1e:∀(rs:List Nat) (w:World),(a2r rs w).heap.size=w.heap.size∧(a2r rs w).tape=w.tape∧(a2r rs w).os=w.os∧(a2r rs w).output=w.output∧
 ∀c,c∉rs→(a2r rs w).heap[c]?=w.heap[c]?
 | [],w=>⟨rfl,rfl,rfl,rfl,λ_ _=>rfl⟩
 |r::rs,w=>by obtain⟨h1,h2,h3,h4,h5⟩:=b1e rs (w.putObj r (.deferred none));refine⟨by rw[a2r,h1];simp,by rw[a2r,h2];rfl,by rw[a2r,h3];rfl,by rw[a2r,h4];rfl,λc hc=>?_⟩;simp only[f2s,not_or]at hc;rw[a2r,h5 c hc.2,World.putObj_heap_other hc.1]
theorem b1j{P:Program}{n:Nat}{F:Fence}{fn:Func}{tmps:Array Value}{R:Ending→World→Prop}:∀(rs:List Nat) (w:World),rs.Nodup→(∀r∈rs,w.heap[r]?=some (.deferred (some [])))→
 (∃v,(results fn tmps).run P (a2r rs w) = .ok v (a2r rs w)∧R (.returned v) (a2r rs w))→LeavesInM F n P fn tmps R (rs.map (λr=>(⟨.collected r,#[]⟩:Deferred))) .returning w
 | [],w,_,_,h=>by simpa[LeavesInM,LeavesIn,a2r]using h
 |r::rs,w,aY,hr,h=>by simp only[e12,LeavesInM];refine⟨by simp,.inl ⟨r,w.putObj r (.deferred none),rfl,run_takeDeferred (hr r (by simp)),?_⟩⟩;have aY:=f5q.1 aY;refine b1j rs _ aY.2 (λq hq=>?_) h;have au:q≠r:=λe=>aY.1 (by rw[←e];exact hq);rw[World.putObj_heap_other au];exact hr q (by simp[hq])
/-! ### a scope -/
theorem a8w{F:Fence}{n:Nat}{P:Program}{Q:Exit→Act→World→Prop}{a:Act}{w:World}{c:Code}(h:c.wpIn F n P (Exit.noGoto Q) a w):(Code.scope c).wpIn F n P Q a w:=by
 intro b k cs jp hb hr;have h0:(lone (b.atR a (.code (.scope c)::k)) cs w).fenced P F:=fenced_calm hb hr rfl;have s0:step P (lone (b.atR a (.code (.scope c)::k)) cs w) = .next (lone (b.atR a (.code c :: .inScope c::k)) cs w):=step_lone_go (by simp[stepG,stepG.exec,Frame.atR]);obtain⟨e,a₁,w₁,hq,bq⟩:=h b (.inScope c::k) cs jp hb hr;have s1:step P (lone (b.atR a₁ (.inScope c::k)) cs w₁) = .next (lone (b.atR a₁ k) cs w₁):=step_lone_go (by simp[stepG,stepG.exec,Frame.atR]);cases e with
 |normal=>exact⟨.normal,a₁,w₁,hq,.head h0 s0 (StepsIn.trans bq (.one (fenced_calm hb hr rfl) s1))⟩
 |exit id=>
  have hx:exitTo id (.inScope c::k)=exitTo id k:=by simp[exitTo]
  exact⟨.exit id,a₁,w₁,hq,λk' hk=>.head h0 s0 (bq.1 k' (by rw[hx];exact hk)),
   λiA hk=>let⟨k₁,h1,h2⟩:=bq.2 iA (by rw[hx];exact hk);⟨k₁,h1,.head h0 s0 h2⟩⟩
 |goto l=>exact hq.elim
 |ret=>exact⟨_,a₁,w₁,hq,.of_steps (.one h0 s0) bq⟩
 |panic ch=>exact⟨_,a₁,w₁,hq,.of_steps (.one h0 s0) bq⟩
 |outgrown=>exact⟨_,a₁,w₁,hq,.of_steps (.one h0 s0) bq⟩
end Go.Ax
/- AxCode: statements. -/
namespace Go.Ax
def a34:Bool→Code→Bool
 |top,.region _ am ah=>bif (d42 am.toList).isSome then top && !ah else bif ah then c4u am.toList else true
 |top,.seq a b=>a34 top a&&a34 false b
 |_,.cond _ a b=>a34 false a&&a34 false b
 |_,.block _ b=>a34 false b
 |_,.loop b=>a34 (a7m b).isSome b
 |_,.scope b=>a34 false b
 |_,_=>true
def a84(c:Code):Bool:=a34 false c
def AExit.conv:AExit→Exit
 |.normal=>.normal
 |.exit id=>.exit id
 |.ret=>.ret
def e2d(E:Env)(call:FuncId→List AV→a02→Option (AV×a02))(fid:Nat)(ro:Option Nat)(e:Entry)(N lf:Nat)(keep:Nat→List Nat)(c:Code):Prop:=
 ∀{R:Type} {cur:Nat},RFOk E fid N keep ro cur c→∀{k:AExit→Frm→a02→Option R} {r:R} {Q:Exit→Act→World→Prop},(∀x F H I ρ a w,Now E e N F H I ρ a w→k x F H=some r→Q x.conv a w)→
 ∀{F:Frm} {H:a02} {I:Nat→Prop} {ρ:PMap} {a:Act} {w:World},Now E e N F H I ρ a w→a3x E e.m N keep call lf cur c F H k=some r→c.wpIn (wf ro) 0 E.P Q a w
/-! ### a loop over a set -/
theorem c0i(x:Int):∀(a b:List Int),a++x::b∈c6f x (a++b)
 | [],[]=>by simp[c6f]
 | [],y::b=>by simp[c6f]
 |y::a,b=>by simp only[f0k,c6f,f2s];exact .inr (f4f (c0i x a b))
theorem b61:∀{ks o:List Int},o.Perm ks→o∈b62 ks
 | [],o,h=>by rw[h.eq_nil];simp[b62]
 |x::ks,o,h=>by obtain⟨a,b,rfl⟩:=List.append_of_mem (h.mem_iff.2 (List.mem_cons_self));have h2:(a++b).Perm ks:=(List.perm_middle.symm.trans h).cons_inv;simp only[b62,List.mem_flatMap];exact⟨a++b,b61 h2,c0i x a b⟩
theorem c3s:∀{F G:a02},c5t F G=true→F=G
 | [],[],_=>rfl
 |a::F,b::G,h=>by simp only[c5t,e9l]at h;rw[c3r _ _ h.1,c3s h.2]
 | [],_::_,h=>by simp[c5t]at h
 |_::_,[],h=>by simp[c5t]at h
theorem c3t{x:Option R3}{r:R3}(h:d95 x r=true):x=some r:=by
 unfold d95 at h;split at h
 case h_2=>cases h
 rename_i e F H;simp only[e9l]at h;obtain⟨e',F',H'⟩:=r;have he:e=e':=by have:=h.1;cases e<;>cases e'<;>simp[e42]at this<;>first|rfl|rw[this]
 rw[he,b7m h.2.1,c3s h.2.2]
section
variable {E:Env}
theorem b0c{H:a02}{b x:Nat}{o:Option AObj}:a01 (H.set b o) x=if b=x∧b<H.length then o else a01 H x:=by
 unfold a01;rw[f2v];by_cases h:b=x
 ·subst h;by_cases h2:b<H.length
  ·simp[h2]
  ·simp[h2]
 ·simp[h]
theorem b87{H:a02}{b:Nat}{o:AObj}(h:a01 H b=some o):b<H.length:=by
 unfold a01 at h;rcases f4i b H.length with h1|h1
 ·exact h1
 ·rw[f2n h1]at h;simp at h
theorem Now.dropIt{e:Entry}{N:Nat}{F:Frm}{H:a02}{I:Nat→Prop}{ρ:PMap}{a:Act}{w:World}(h:Now E e N F H I ρ a w)(it:Nat):Now E e N F (Ax.dropIt F H it) I ρ a w:=by
 unfold Ax.dropIt;split
 ·rename_i b i o hb;refine{ h with rel:=h.rel.fewer (λx ob hx=>?_),nrel:=by rw[f2r];exact h.nrel,low:=by rw[f2r];exact h.low };rw[b0c]at hx;split at hx
  ·cases hx
  ·exact hx
 ·exact h
theorem Now.step{e:Entry}{N:Nat}{F:Frm}{H:a02}{I:Nat→Prop}{ρ:PMap}{a:Act}{w w':World}(h:Now E e N F H I ρ a w){b:Nat}{o:AObj}(hb:b<H.length)(st:Stepped E.G I e.K ρ w I ρ ((a01 H).eff H.length (.set b o)) w')
 {nx:Nat}(fN:nx<N){v:AV}{c:Value}(hv:VRel I w' ρ v c):Now E e N (a3l F (some nx) v) (H.set b (some o)) I ρ (a.put (some nx) c) w':=by
 have hl:(H.set b (some o)).length=H.length:=f2r;refine⟨h.imm,h.map,h.ext.trans h.imm st.ext,st.rel.fewer ?_,by rw[hl];exact h.nrel,?_,by rw[hl];exact h.low,by rw[a30];exact h.marks.mono (λ_ h=>h) (λc hc=>st.ext.keep c (.inl hc))⟩
 ·exact c4s H (.set b o)
 ·exact(FRel.mono h.frm (λv c hv=>st.vrel hv)).set (by intro s hs;cases hs;exact fN) hv
theorem d4b(ok:EnvOk E){call:FuncId→List AV→a02→Option (AV×a02)}(ae:a35 E call){fid:Nat}{ro:Option Nat}{e:Entry}{N lf:Nat}{keep:Nat→List Nat}{af:Code}(cE:e2d E call fid ro e N lf keep af)
 {id:Nat}{am:Array Oper}{it nx:Nat}{lT:List Oper}(fN:d42 am.toList=some (it,nx,lT)){R:Type}{cur:Nat}(cu:RFOk E fid N keep ro cur af){k:AExit→Frm→a02→Option R}{r:R}{Q:Exit→Act→World→Prop}
 (hQ:∀x F H I ρ a w,Now E e N F H I ρ a w→k x F H=some r→Q x.conv a w){F:Frm}{H:a02}{I:Nat→Prop}{ρ:PMap}{a:Act}{w:World}(aj:Now E e N F H I ρ a w)
 (ac:c66 e.m it (keep cur) (λF H k=>a3x E e.m N keep call lf cur (.seq (.region id am false) af) F H k) F H k=some r):(Code.loop (.seq (.region id am false) af)).wpIn (wf ro) 0 E.P Q a w:=by
 obtain⟨o0,dE,dA,lw,rZ⟩:∃o0,am.toList=o0::lT∧o0.op = .next (.tmp it) false∧o0.dst=some nx∧o0.guard=none:=by
  unfold d42 at fN;split at fN
  ·cases fN
  ·rename_i o qX he;split at fN
   ·rename_i sT uv h1 h2 h3;cases fN;exact⟨o,he,h1,h2,h3⟩
   ·cases fN
 unfold c66 at ac;split at ac
 case h_2=>cases ac
 rename_i ks cK;split at ac
 case h_2=>cases ac
 rename_i r0 rs jx;rw[cond_eq_ite]at ac;split at ac
 case isFalse=>cases ac
 rename_i aR;have aP:∀o,o.Perm ks→a5a e.m it (keep cur) ks (λF H k=>a3x E e.m N keep call lf cur (.seq (.region id am false) af) F H k) [] o F H=some r0:=by
  intro o ho;have hm:=f4f (f:=λo=>a5a e.m it (keep cur) ks (λF H k=>a3x E e.m N keep call lf cur (.seq (.region id am false) af) F H k) [] o F H) (b61 ho);rw[jx]at hm;rcases f2s.1 hm with h|h
  ·exact h
  ·exact c3t (f2u.1 aR _ h)
 refine b99 (n:=ks.length+1) (λn a w=>∃F H I ρ aK R,Now E e N F H I ρ a w∧R.length+1=n∧(aK++R).Perm ks∧
  ∀o,o.Perm R→a5a e.m it (keep cur) ks (λF H k=>a3x E e.m N keep call lf cur (.seq (.region id am false) af) F H k) aK o F H=some r0) ?_ ?_ ⟨F,H,I,ρ,[],ks,aj,rfl,List.Perm.refl _,aP⟩
 ·rintro n a w ⟨F,H,I,ρ,aK,R,aj,hn,fu,aP⟩
  -- the head
  have head:∀{ib:Option Int} {e' F' H'},b1g e.m it (keep cur) ks aK (λF H k=>a3x E e.m N keep call lf cur (.seq (.region id am false) af) F H k) ib F H=some (e',F',H')→
   ∃F1 H1 ρ1 b cT,gcD e.m (keep cur) F H=some (F1,H1)∧Now E e N F1 H1 I ρ1 a w∧a38 F1 it = .ptr b 0 0∧a01 H1 b=some (.miter ks aK cT)∧
    a3x E e.m N keep call lf cur (.seq (.region id am false) af) F1 (H1.set b (some (.miter ks aK (some ib)))) (λe F' H'=>some (e,F',H'))=some (e',F',H'):=by
   intro ib e' F' H' hr;unfold b1g at hr;split at hr
   case h_2=>cases hr
   rename_i F1 H1 hg;split at hr
   case h_2=>cases hr
   rename_i H2 ha;unfold f3u at ha;split at ha
   case h_2=>cases ha
   rename_i b hb;split at ha
   case h_2=>cases ha
   rename_i jh cG cT cX;rw[cond_eq_ite]at ha;split at ha
   case isFalse=>cases ha
   rename_i hc;simp only[e9l,f0l]at hc;obtain⟨rfl,rfl⟩:=hc;cases ha;have cY:=hg;unfold gcD at cY;dsimp only at cY;rw[cond_eq_ite]at cY;split at cY
   case isFalse=>cases cY
   rename_i hc;simp only[e9l,f2u,f4k]at hc;cases cY;obtain⟨ρ',gu⟩:=(aj.keep (keep cur)).gc (a8j hc.1.1) hc.1.2;exact⟨_,_,ρ',b,cT,hg,gu,hb,cX,hr⟩
  -- one round,after the gp
  have jg:∀{ib:Option Int} {e':AExit} {F':Frm} {H':a02} {F1:Frm} {H1:a02} {ρ1:PMap} {b:Nat} {cT:Option (Option Int)} {v:AV} {o1:AObj} {c:Value} {w':World},
   Now E e N F1 H1 I ρ1 a w→a38 F1 it = .ptr b 0 0→a01 H1 b=some (.miter ks aK cT)→
   (d45 F1 (H1.set b (some (.miter ks aK (some ib)))) it=some (v,(H1.set b (some (.miter ks aK (some ib)))).set b (some o1)))→
   (Instr.next (a.eval (.tmp it)) false o0.type).run E.P w = .ok c w'→Stepped E.G I e.K ρ1 w I ρ1 ((a01 H1).eff H1.length (.set b o1)) w'→VRel I w' ρ1 v c→
   a3x E e.m N keep call lf cur (.seq (.region id am false) af) F1 (H1.set b (some (.miter ks aK (some ib)))) (λe F' H'=>some (e,F',H'))=some (e',F',H')→
   ∀{Q':Exit→Act→World→Prop},(∀I ρ a w,Now E e N F' H' I ρ a w→Q' e'.conv a w)→(Code.seq (.region id am false) af).wpIn (wf ro) 0 E.P Q' a w:=by
   intro ib e' F' H' F1 H1 ρ1 b cT v o1 c w' a9 hb cX oP na aw hv hr Q' o3;unfold a3x at hr;unfold a3x at hr;rw[fN]at hr;simp only[Bool.false_or,cond_eq_ite]at hr;split at hr
   case isTrue=>cases hr
   rename_i ag;have ag:nx<N:=by simpa[f2p]using ag
   rw[oP]at hr;simp only[List.set_set]at hr;have l7:=a9.step (b87 cX) aw ag hv;refine wpIn_seq (wpIn_region ?_);have ai:List.range am.size=0::List.range' 1 lT.length:=by rw[List.range_eq_range',←f2t,dE,e9m,List.range'_succ]
   rw[ai];have ho:am[0]?=some o0:=by
    have:am.toList[0]?=some o0:=by rw[dE];rfl
    simpa using this
   refine b5g ho (by simp[Region.wanted,rZ]) ?_;refine a7q (by rw[dA];intro c hc;cases hc) ?_;have hx:(execOp a.eval o0).run E.P w = .ok (.value c) w':=by
    have:execOp a.eval o0=(do pure (.value (←Instr.next (a.eval (.tmp it)) false o0.type))):=by obtain⟨d,op,ty,pos,after,guard⟩:=o0;simp only at dA;subst dA;rfl
    rw[this];simp[na]
   rw[hx,Oper.uponIn_value,lw];refine b0k ok ae (am:=am) (k:=λF' H'=>a3x E e.m N keep call lf cur af F' H' λe F' H'=>some (e,F',H')) ?_ lT 1 _ _ _ _ _ _ _ (by rw[dE];rfl) l7 hr;intro F H I ρ a w hn hk;refine cE cu ?_ hn hk;intro x F H I ρ a w hn hk;cases hk;exact o3 I ρ a w hn
  -- what the iterator answers
  have gp:∀{F1:Frm} {H1:a02} {ρ1:PMap} {b:Nat} {cT:Option (Option Int)},Now E e N F1 H1 I ρ1 a w→a38 F1 it = .ptr b 0 0→a01 H1 b=some (.miter ks aK cT)→
   (∃i,i∈ks∧i∉aK∧∃w',(Instr.next (a.eval (.tmp it)) false o0.type).run E.P w = .ok (.tuple #[.bool true,.int .i64 i,.bool true]) w'∧Stepped E.G I e.K ρ1 w I ρ1 ((a01 H1).eff H1.length (.set b (.miter ks (aK++[i]) none))) w')∨
    ((∀i∈ks,i∈aK)∧∃w',(Instr.next (a.eval (.tmp it)) false o0.type).run E.P w = .ok (.tuple #[.bool false]) w'∧Stepped E.G I e.K ρ1 w I ρ1 ((a01 H1).eff H1.length (.set b (.miter ks aK none))) w'):=by
   intro F1 H1 ρ1 b cT a9 hb cX;have hp:=a9.frm.2 it;rw[hb]at hp;simp only[VRel]at hp;obtain⟨m,hm,dK⟩:=hp;obtain⟨m',aV,_,_,h0,_⟩:=a9.rel.live b _ cX;obtain rfl:m=m':=z9o (hm.symm.trans aV);have:a.eval (.tmp it) = .pointer (some ⟨m.blk,0,none⟩):=by show a.tmps.getD it undef=_;rw[dK,h0];simp
   rw[this];exact d44 a9.rel cX hm o0.type
  have nodup:∀{H1:a02} {ρ1:PMap} {F1:Frm} {b:Nat} {cT:Option (Option Int)},Now E e N F1 H1 I ρ1 a w→a01 H1 b=some (.miter ks aK cT)→ks.Nodup:=by
   intro H1 ρ1 F1 b cT a9 cX;obtain⟨m',aV,_,_,h0,ho⟩:=a9.rel.live b _ cX;rcases ho with ⟨h1,_⟩|⟨c,es,cl,seen,_,_,hs,_⟩
   ·rw[h1];exact List.nodup_nil
   ·exact hs.2.2.1
  have a7:∀{H1:a02} {b:Nat} {cT:Option (Option Int)} (ib:Option Int),a01 H1 b=some (.miter ks aK cT)→a01 (H1.set b (some (.miter ks aK (some ib)))) b=some (.miter ks aK (some ib)):=by intro H1 b cT ib cX;rw[b0c,f1r ⟨rfl,b87 cX⟩]
  cases R with
  |nil=>
   have h1:=aP [] (List.Perm.refl _);unfold a5a at h1;split at h1
   ·cases h1
   ·rename_i e' F' H' au hr;cases h1;obtain⟨F1,H1,ρ1,b,cT,hg,a9,hb,cX,eA⟩:=head hr;rcases gp a9 hb cX with ⟨i,hi,pO,_⟩|⟨_,w',eo,aw⟩
    ·have:=fu.mem_iff.2 hi;rw[e9n]at this;exact absurd this pO
    ·refine jg (v:=.tuple [.bool false]) (c:=.tuple #[.bool false]) a9 hb cX (by unfold d45;rw[hb,];simp only[a7 none cX]) eo aw (by simp only[VRel];exact⟨_,rfl,by simp only[VRels];exact⟨_,_,rfl,by simp[VRel],rfl⟩⟩) eA ?_;intro I ρ a w hn;have hq:=hQ e' F' _ I ρ a w (hn.dropIt it) ac;cases e' with
     |normal=>exact(au rfl).elim
     |exit id=>exact hq
     |ret=>exact hq
   ·cases h1
  |cons x R=>
   have h1:=aP (x::R) (List.Perm.refl _);have fL:∃e' F' H',b1g e.m it (keep cur) ks aK (λF H k=>a3x E e.m N keep call lf cur (.seq (.region id am false) af) F H k) (some x) F H=some (e',F',H'):=by
    unfold a5a at h1;split at h1
    ·rename_i F' H' hr;exact⟨_,_,_,hr⟩
    ·cases h1
   obtain⟨_,_,_,fL⟩:=fL;obtain⟨F1,H1,ρ1,b,cT,hg,a9,hb,cX,_⟩:=head fL;have aY:=nodup a9 cX;rcases gp a9 hb cX with ⟨i,hi,pO,w',eo,aw⟩|⟨nU,_⟩
   ·have tJ:i∈x::R:=by
     rcases f2w.1 (fu.mem_iff.2 hi)with h|h
     ·exact absurd h pO
     ·exact h
    have dK:(i::(x::R).erase i).Perm (x::R):=(List.perm_cons_erase tJ).symm;have h2:=aP _ dK;unfold a5a at h2;split at h2
    case h_2=>cases h2
    rename_i F' H' hr;obtain⟨uQ,ur,ρ1',b',uq,cY,tt,aL,tL,eA⟩:=head hr;rw[hg]at cY;cases cY;rw[hb]at aL;cases aL;refine jg (v:=.tuple [.bool true,.int .i64 i,.bool true]) (c:=.tuple #[.bool true,.int .i64 i,.bool true]) a9 hb cX (by unfold d45;rw[hb];simp only[a7 (some i) cX]) eo aw
     (by simp only[VRel];exact⟨_,rfl,by simp only[VRels];exact⟨_,_,rfl,by simp[VRel],_,_,rfl,by simp[VRel],_,_,rfl,by simp[VRel],rfl⟩⟩) eA ?_
    intro I2 ρ2 a2 w2 dV;refine⟨F',H',I2,ρ2,aK++[i],(x::R).erase i,dV,?_,?_,?_⟩
    ·have:=dK.length_eq;simp only[e9m]at this hn⊢;omega
    ·rw[e9o];exact(dK.append_left aK).trans fu
    ·intro o ho;have h3:=aP (i::o) ((ho.cons i).trans dK);unfold a5a at h3;rw[hr]at h3;exact h3
   ·have hx:x∈ks:=fu.mem_iff.1 (by simp);have jv:=fu.nodup_iff.2 aY;rw[List.nodup_append]at jv;exact absurd rfl (jv.2.2 x (nU x hx) x (by simp))
 ·rintro a w ⟨F,H,I,ρ,aK,R,_,hn,_⟩
  omega
/-! ### a loop over a function -/
theorem b2o:∀(F:List (Nat×AV)) (s:Nat),b9j F s=a38 F s
 | [],s=>rfl
 |(t,v)::F,s=>by simp only[b9j,a38,b2o F s]
theorem c7s{H:a02}{b:Nat}{st:YSt}(h:e2e H b=some st):∃y F,a01 H b=some (.yloop y F st):=by
 unfold e2e at h;split at h
 ·rename_i y F us hb;cases h;exact⟨y,F,hb⟩
 ·cases h
theorem b98{H H':a02}{b:Nat}{old new:YSt}(h:c3l H b old new=some H'):∃y F,a01 H b=some (.yloop y F old)∧H'=H.set b (some (.yloop y F new)):=by
 unfold c3l at h;split at h
 ·rename_i y F st hb;rw[cond_eq_ite]at h;split at h
  ·rename_i aw;have aw:=of_decide_eq_true aw;subst aw;cases h;exact⟨y,F,hb,rfl⟩
  ·cases h
 ·cases h
theorem Now.yput{e:Entry}{N:Nat}{F:Frm}{H:a02}{I:Nat→Prop}{ρ:PMap}{a:Act}{w:World}(h:Now E e N F H I ρ a w){b y:Nat}{F0:Frm}{old new:YSt}{m:Pl}{r r':Loop}
 (hb:a01 H b=some (.yloop y F0 old))(hm:ρ b=some m)(hr:w.heap[m.blk]?=some (.loop r))(bS:r'.tmps=r.tmps∧r'.params=r.params∧r'.assign=r.assign∧r'.body=r.body)
 (aw:match new with
  |.ready=>r'.state = .ready∧r'.pending=none
  |.busy=>r'.state = .busy
  |.done j=>r'.state = .done∧r'.pending=some (c48 j)):Now E e N F (H.set b (some (.yloop y F0 new))) I ρ a (w.putObj m.blk (.loop r')):=by
 obtain⟨m',aV,dg,e9,ri,r0,h0,h1,h2,h3,h4,h5,h6,h7⟩:=h.rel.live b _ hb;obtain rfl:m=m':=z9o (hm.symm.trans aV);obtain rfl:r=r0:=by rw[hr]at h1;cases h1;rfl
 have ag:=h.rel.dom b m hm;have bM:∀c,I c→(w.putObj m.blk (.loop r')).heap[c]?=w.heap[c]?:=λc hc=>World.putObj_heap_other (λe=>dg (e▸hc));have st:Stepped E.G I e.K ρ w I ρ ((a01 H).eff H.length (.set b (.yloop y F0 new))) (w.putObj m.blk (.loop r')):=by refine a22 h.rel hb hm (by simp) (λc hc=>World.putObj_heap_other hc) rfl rfl rfl ?_;refine⟨ri,r',h0,World.putObj_heap_same ag,by rw[bS.1];exact h2,by rw[bS.2.1];exact h3,by rw[bS.2.2.1];exact h4,by rw[bS.2.2.2];exact h5,λs=>?_,aw⟩;rw[bS.1];exact VRel.mono (λ_ h=>h) bM _ (λ_ _ h=>h) (h6 s)
 have hl:(H.set b (some (AObj.yloop y F0 new))).length=H.length:=f2r;exact⟨h.imm,h.map,h.ext.trans h.imm st.ext,st.rel.fewer (c4s H (.set b (.yloop y F0 new))),by rw[hl];exact h.nrel,FRel.mono h.frm (λv c hv=>st.vrel hv),by rw[hl];exact h.low,h.marks.mono (λ_ h=>h) (λc hc=>st.ext.keep c (.inl hc))⟩
def YSt.jump:YSt→Option Code
 |.done j=>some (c48 j)
 |_=>none
theorem e9e(ok:EnvOk E){call:FuncId→List AV→a02→Option (AV×a02)}(ae:a35 E call){fid:Nat}{e:Entry}{N lf:Nat}{keep:Nat→List Nat}{g:Operand}{ps:Array Tmp}{asg body:Code}
 {R:Type}{cur:Nat}(cu:RFOk E fid N keep none cur (.rangeFunc g ps asg body)){k:AExit→Frm→a02→Option R}{r:R}{Q:Exit→Act→World→Prop}(hQ:∀x F H I ρ a w,Now E e N F H I ρ a w→k x F H=some r→Q x.conv a w)
 {F:Frm}{H:a02}{I:Nat→Prop}{ρ:PMap}{a:Act}{w:World}(aj:Now E e N F H I ρ a w)(ac:a3x E e.m N keep call lf cur (.rangeFunc g ps asg body) F H k=some r) :
 (Code.rangeFunc g ps asg body).wpIn (wf none) 0 E.P Q a w:=by
 unfold a3x at ac;split at ac
 case h_2=>cases ac
 rename_i gf fs cs y iQ hy;rw[cond_eq_ite]at ac;split at ac
 case isFalse=>cases ac
 rename_i hc;simp only[e9l,f3z]at hc;obtain⟨hg,_⟩:=hc;split at ac
 case h_2=>cases ac
 rename_i v H2 σ dW;obtain⟨y',ij,gt⟩:=cu.2 (cur,⟨N,ps.toList,asg,body,fid⟩) (by simp[rfs]);rw[hy]at ij;cases ij;have hf:=b35 aj.rel aj.frm g;rw[iQ]at hf;simp only[VRel]at hf;obtain⟨cz,aJ,ei,iR,dY⟩:=hf;refine wpIn_rangeFunc (F:=Fence.wide) (λfn _=>?_)
 let rec0:Loop:={ state:=.ready,pending:=none,fn,tmps:=a.tmps,params:=ps,assign:=asg,body,defers:=w.heap.size }
 let w1:World:=w.alloc (.deferred (some []))
 let w2:World:=w1.alloc (.loop rec0)
 let m:Pl:=⟨w.heap.size+1,0,0,0⟩
 let Y:AObj:=.yloop y (a1i (keep cur) F) .ready
 have mS:w1.heap.size=w.heap.size+1:=by simp[w1]
 have lS:Stepped E.G I e.K ρ w (λc=>I c∨c=w.heap.size) ρ (a01 H) w1:=c1u aj.rel (ob:=.deferred (some [])) rfl rfl rfl rfl;have aF:∀b q,ρ b=some q→(ρ.set H.length m) b=some q:=PMap.set_old (aj.nrel _ (f1u _));have e7:∀c,c<w1.heap.size→w2.heap[c]?=w1.heap[c]?:=by intro c hc;show(w1.heap.push _)[c]?=_;rw[f6x,f0j (by omega)]
 have oB:Stepped E.G (λc=>I c∨c=w.heap.size) e.K ρ w1 (λc=>I c∨c=w.heap.size) (ρ.set H.length m) ((a01 H).eff H.length (.new Y)) w2:=by
  refine a2a lS.rel (b78 H) (aj.nrel _ (f1u _)) (ob:=.loop rec0) rfl rfl rfl rfl mS.symm ?_;refine⟨_,rec0,gt,?_,aj.frm.1,rfl,rfl,rfl,λs=>?_,rfl,rfl⟩
  ·have:=World.alloc_heap_new w1 (.loop rec0);rw[mS]at this;exact this
  ·rw[b2o,b3y];split
   ·exact VRel.mono (λc hc=>hc) (λc hc=>e7 c (lS.rel.imm c hc)) _ aF (lS.vrel (aj.frm.2 s))
   ·simp[VRel]
 have mU:HRel E.G (λc=>I c∨c=w.heap.size) e.K (ρ.set H.length m) (a01 (H++[some Y])) w2:=oB.rel.fewer (c4s H (.new Y));have dV:NRel (ρ.set H.length m) (H++[some Y]).length:=by intro b hb;simp only[f1o,e9m,f0g]at hb;simp only[PMap.set];rw[f0j (by omega)];exact aj.nrel b (by omega)
 have up:∀{v:AV} {c:Value},VRel I w ρ v c→VRel (λc=>I c∨c=w.heap.size) w2 (ρ.set H.length m) v c:=λhv=>oB.vrel (lS.vrel hv);have qV:∀{v:List AV} {c:List Value},VRels I w ρ v c→VRels (λc=>I c∨c=w.heap.size) w2 (ρ.set H.length m) v c:=λhv=>oB.vrels (lS.vrels hv);have aC:VRels (λc=>I c∨c=w.heap.size) w2 (ρ.set H.length m) (fs++[.yfn H.length]++cs) (cz ++ #[Value.func (.yield (w.heap.size+1)) #[] #[]]++aJ).toList:=by simp only[Array.toList_append];refine VRels.append (VRels.append (qV iR) ?_) (qV dY);simp only[VRels];exact⟨_,_,rfl,by simp only[VRel];exact⟨m,by simp[PMap.set],rfl⟩,rfl⟩
 have gk:=b17 (ae gf) dW mU dV aC;obtain⟨i,hi⟩:=f0c.1 hg;rw[b0b (c6m ok hi)]at gk;have bq:(cz ++ #[Value.func (.yield (w.heap.size+1)) #[] #[]]++aJ).toList.toArray=cz ++ #[Value.func (.yield (w.heap.size+1)) #[] #[]]++aJ:=by apply f6r;simp
 rw[bq]at gk;refine⟨w.heap.size+1,[{ target:=.collected w.heap.size,args:=#[] }],w2,⟨.fn (.func gf) aJ,cz ++ #[Value.func (.yield (w.heap.size+1)) #[] #[]]⟩,w2,gf,_,w2,run_enterLoop_outer fn a.tmps ps asg body,?_,λ_ _=>trivial,?_,λh=>by simp[Fence.wide]at h,callsIn_wide.2 (Calls.mono gk ?_)⟩
 ·have qu:a.eval (.const (Value.func (.yield (w.heap.size+1)) #[] #[]))=Value.func (.yield (w.heap.size+1)) #[] #[]:=rfl;simp only[resolve,rangeCall,ei,Deferred.ofValue,List.map_toArray,e12,e9p,qu];rfl
 ·simp only[invoke];exact a3w ok hg _
 rintro en w3 ⟨c,I',ρ',rfl,aB,dc⟩
 rw[f1o,List.length_singleton]at aB
 -- behind the loop
 have fin:∀(st:YSt),e2e H2 H.length=some st→∀(oQ:st≠ .busy),∃w4,(Instr.endLoop (w.heap.size+1)).run E.P w3 = .ok st.jump w4∧
  Now E e N F (H2.set H.length none) I' ρ' { a with defers:=[{ target:=.collected w.heap.size,args:=#[] }]++a.defers } w4:=by
  intro st aw oQ;obtain⟨y1,F1,hb⟩:=c7s aw;obtain⟨m1,eg,dg,e9,ut,r1,g0,g1,g2,g3,g4,g5,g6,g7⟩:=aB.rel.live _ _ hb;have hm:ρ' H.length=some m:=by rw[aB.map _ (by omega)];simp[PMap.set]
  obtain rfl:m=m1:=z9o (hm.symm.trans eg);have fX:r1.state≠ .busy∧r1.pending=st.jump:=by
   cases st with
   |ready=>exact⟨by rw[g7.1];simp,g7.2⟩
   |busy=>exact absurd rfl oQ
   |done j=>exact⟨by rw[g7.1];simp,g7.2⟩
  have fE:=run_endLoop (P:=E.P) g1 fX.1;refine⟨w3.putObj m.blk (.loop { r1 with state:=.exhausted }),by rw[←fX.2];exact fE,?_⟩;have bg:=aB.low;have tW:H.length<H2.length:=by omega
  have qW:Stepped E.G I' e.K ρ' w3 I' ρ' (a01 (H2.set H.length none)) (w3.putObj m.blk (.loop { r1 with state:=.exhausted })):=by
   refine b9f (c0:=m.blk) (aB.rel.fewer ?_) dg e9 ?_ (by simp) (λc hc=>World.putObj_heap_other hc) rfl rfl rfl
   ·intro b o hb;rw[b0c]at hb;split at hb
    ·cases hb
    ·exact hb
   ·intro b o q aL hq he;rw[b0c]at aL;split at aL
    ·cases aL
    ·rename_i au;have:=aB.rel.inj b H.length q m (by simp[aL]) (by simp[hb]) hq hm he;exact au ⟨this.symm,tW⟩
  have ia:∀c,I c→I' c:=λc hc=>aB.imm c (.inl hc);have b9:Ext I e.K w (w3.putObj m.blk (.loop { r1 with state:=.exhausted })):=((lS.ext.trans (λ_ h=>.inl h) oB.ext).trans (λ_ h=>.inl h) aB.ext).trans ia qW.ext;have hρ':∀b q,ρ b=some q→ρ' b=some q:=by
   intro b q hq;have bE:b<H.length:=by
    rcases f4i b H.length with h|h
    ·exact h
    ·rw[aj.nrel b h]at hq;cases hq
   rw[aB.map b (by omega)];exact aF b q hq
  have hl:(H2.set H.length none).length=H2.length:=f2r;refine⟨λc hc=>ia c (aj.imm c hc),λb hb=>?_,aj.ext.trans aj.imm b9,qW.rel,by rw[hl];exact aB.nrel,FRel.mono aj.frm (λv c hv=>VRel.mono ia (λc hc=>b9.keep c (.inl hc)) v hρ' hv),by rw[hl];have:=aj.low;omega,?_⟩
  ·have:=aj.low;rw[aB.map b (by omega)];simp only[PMap.set];rw[f0j (by omega)];exact aj.map b hb
  ·obtain⟨rs,q1,q2,q3⟩:=aj.marks;refine⟨w.heap.size::rs,by rw[q1];rfl,f5q.2 ⟨λhm=>?_,q2⟩,?_⟩
   ·have:=(f3d.1 (q3 _ hm).2.2).1;omega
   ·intro q hq;rcases f2s.1 hq with rfl|hq
    ·refine⟨aB.imm _ (.inr rfl),aj.ext.size,?_⟩;rw[World.putObj_heap_other (by show w.heap.size≠w.heap.size+1;omega),aB.ext.keep _ (.inl (.inr rfl)),e7 _ (by omega)];exact World.alloc_heap_new w _
    ·obtain⟨p1,p2,p3⟩:=q3 q hq;exact⟨ia q p1,p2,by rw[b9.keep q (.inl p1)];exact p3⟩
 show rangePost Fence.wide 0 E.P (w.heap.size+1) Q _ (.returned c) w3;split at ac
 ·rename_i aw;obtain⟨w4,h1,h2⟩:=fin _ aw (by simp);exact⟨none,w4,h1,hQ .normal _ _ _ _ _ _ h2 ac⟩
 ·rename_i aw;obtain⟨w4,h1,h2⟩:=fin _ aw (by simp);exact⟨some .ret,w4,h1,wpIn_ret (hQ .ret _ _ _ _ _ _ h2 ac)⟩
 ·rename_i id aw;obtain⟨w4,h1,h2⟩:=fin _ aw (by simp);exact⟨some (.exit id),w4,h1,wpIn_exit (hQ (.exit id) _ _ _ _ _ _ h2 ac)⟩
 ·cases ac
theorem d66(ok:EnvOk E){call:FuncId→List AV→a02→Option (AV×a02)}(ae:a35 E call){fid:Nat}{ro:Option Nat}{e:Entry}{N lf:Nat}{keep:Nat→List Nat}:∀(c:Code),
 (a34 false c=true→e2d E call fid ro e N lf keep c)∧(∀x r,c = .seq x r→a34 false r=true→e2d E call fid ro e N lf keep r):=by
 intro c
 induction c with
 |skip=>exact⟨λ_ R cur cu k r Q hQ F H I ρ a w aj ac=>wpIn_skip (hQ .normal F H I ρ a w aj ac),λ_ _ h=>by cases h⟩
 |label l=>exact⟨λ_ R cur cu k r Q hQ F H I ρ a w aj ac=>wpIn_label (hQ .normal F H I ρ a w aj ac),λ_ _ h=>by cases h⟩
 |exit id=>exact⟨λ_ R cur cu k r Q hQ F H I ρ a w aj ac=>wpIn_exit (hQ (.exit id) F H I ρ a w aj ac),λ_ _ h=>by cases h⟩
 |ret=>exact⟨λ_ R cur cu k r Q hQ F H I ρ a w aj ac=>wpIn_ret (hQ .ret F H I ρ a w aj ac),λ_ _ h=>by cases h⟩
 |region id am ah=>
  refine⟨?_,λ_ _ h=>by cases h⟩;intro aw R cur cu k r Q hQ F H I ρ a w aj ac;have o3:∀F H I ρ a w,Now E e N F H I ρ a w→k .normal F H=some r→Q .normal a w:=λF H I ρ a w h hk=>hQ .normal _ H I ρ a w h hk;unfold a34 at aw;unfold a3x at ac;cases fN:d42 am.toList with
  |some x=>rw[fN]at aw;cases aw
  |none=>
   rw[fN]at aw ac;cases ah with
   |true=>exact c21 (am:=am) ok ae aw o3 aj ac id
   |false=>refine wpIn_region ?_;have:=b0k (ro:=ro) ok ae (am:=am) o3 am.toList 0 [] F H I ρ a w rfl aj ac;rw[List.range_eq_range',←f2t];exact this
 |seq x y ihx ihy=>
  refine⟨?_,λ_ _ h hd=>by cases h;exact ihy.1 hd⟩;intro aw R cur cu k r Q hQ F H I ρ a w aj ac;simp only[a34,e9l]at aw;refine wpIn_seq (ihx.1 aw.1 cu.seq1 ?_ aj ac);intro x F H I ρ a w hn hk;cases x with
  |normal=>exact ihy.1 aw.2 cu.seq2 hQ hn hk
  |exit id=>exact hQ (.exit id) F H I ρ a w hn hk
  |ret=>exact hQ .ret F H I ρ a w hn hk
 |cond c x y ihx ihy=>
  refine⟨?_,λ_ _ h=>by cases h⟩;intro aw R cur cu k r Q hQ F H I ρ a w aj ac;simp only[a34,e9l]at aw;unfold a3x at ac;split at ac
  case h_2=>cases ac
  rename_i t ht;have hc:=b35 aj.rel aj.frm c;rw[ht]at hc;simp only[VRel]at hc;cases t
  ·exact wpIn_cond_false hc (ihy.1 aw.2 cu.cond2 hQ aj ac)
  ·exact wpIn_cond_true hc (ihx.1 aw.1 cu.cond1 hQ aj ac)
 |block id b ih=>
  refine⟨?_,λ_ _ h=>by cases h⟩;intro aw R cur cu k r Q hQ F H I ρ a w aj ac;refine wpIn_block (ih.1 aw cu.block ?_ aj ac);intro x F H I ρ a w hn hk;cases x with
  |normal=>exact hQ .normal F H I ρ a w hn hk
  |exit id'=>
   simp only[AExit.conv,Exit.inBlock];dsimp only at hk;rw[cond_eq_ite]at hk;split at hk
   ·rename_i h;rw[f1r (by simpa using h)];exact hQ .normal F H I ρ a w hn hk
   ·rename_i h;rw[f0j (by simpa using h)];exact hQ (.exit id') F H I ρ a w hn hk
  |ret=>exact hQ .ret F H I ρ a w hn hk
 |loop b ih=>
  refine⟨?_,λ_ _ h=>by cases h⟩;intro aw R cur cu k r Q hQ F H I ρ a w aj ac;unfold a34 at aw;unfold a3x at ac;cases ef:a7m b with
  |some it=>
   rw[ef]at aw ac;unfold a7m at ef;split at ef
   case h_2=>cases ef
   rename_i id am af;obtain⟨⟨sT,nx,lT⟩,h1,h2⟩:=a05 ef;simp only at h2;subst h2;have aw:a34 true (.seq (.region id am false) af)=true:=aw;simp only[a34,e9l]at aw;exact d4b ok ae (ih.2 _ _ rfl aw.2) h1 cu.loop.seq2 hQ aj ac
  |none=>
  rw[ef]at aw ac;refine b99 (n:=lf) (λn a w=>∃F H I ρ,Now E e N F H I ρ a w∧b1y e.m (keep cur) (λF H k=>a3x E e.m N keep call lf cur b F H k) n F H (λx F H=>bif d2x (keep cur)then k x (c2w (e.m+c7p (keep cur)) H F) (c2v (e.m+c7p (keep cur)) H)else k x F H)=some r) ?_ ?_ ⟨F,H,I,ρ,aj,ac⟩
  ·rintro n a w ⟨F,H,I,ρ,aj,ac⟩
   unfold b1y at ac;dsimp only at ac;rw[cond_eq_ite]at ac;split at ac
   case isFalse=>cases ac
   rename_i hc;simp only[e9l,f2u,f4k]at hc;obtain⟨ρ',gu⟩:=(aj.keep (keep cur)).gc (a8j hc.1.1) hc.1.2;refine ih.1 aw cu.loop ?_ gu ac;intro x F H I ρ a w hn hk;have hz:∀x,(bif d2x (keep cur)then k x (c2w (e.m+c7p (keep cur)) H F) (c2v (e.m+c7p (keep cur)) H)else k x F H)=some r→Q x.conv a w:=by
    intro x hk;rw[cond_eq_ite]at hk;split at hk
    ·obtain⟨I',ρ',h'⟩:=hn.frz (c7p (keep cur));exact hQ x _ _ I' ρ' a w h' hk
    ·exact hQ x F H I ρ a w hn hk
   cases x with
   |normal=>exact⟨F,H,I,ρ,hn,hk⟩
   |exit id=>exact hz _ hk
   |ret=>exact hz _ hk
  ·rintro a w ⟨F,H,I,ρ,_,ac⟩
   simp[b1y]at ac
 |scope b ih=>
  refine⟨?_,λ_ _ h=>by cases h⟩;intro aw R cur cu k r Q hQ F H I ρ a w aj ac;refine a8w (ih.1 aw cu.scope ?_ aj ac);intro x F H I ρ a w hn hk;cases x with
  |normal=>exact hQ .normal F H I ρ a w hn hk
  |exit id=>exact hQ (.exit id) F H I ρ a w hn hk
  |ret=>exact hQ .ret F H I ρ a w hn hk
 |rangeFunc f ps as b=>
  refine⟨λ_ R cur cu k r Q hQ F H I ρ a w aj ac=>?_,λ_ _ h=>by cases h⟩;cases ro with
  |none=>exact e9e ok ae cu hQ aj ac
  |some l=>have:=cu.1 rfl;simp[b4x]at this
 |goto l=>exact⟨λ_ R cur cu k r Q hQ F H I ρ a w aj ac=>by simp[a3x]at ac,λ_ _ h=>by cases h⟩
 |refuse s=>exact⟨λ_ R cur cu k r Q hQ F H I ρ a w aj ac=>by simp[a3x]at ac,λ_ _ h=>by cases h⟩
theorem b8l(ok:EnvOk E){call:FuncId→List AV→a02→Option (AV×a02)}(ae:a35 E call){fid:Nat}{ro:Option Nat}{e:Entry}{N lf:Nat}{keep:Nat→List Nat}{R:Type}(c:Code)(hd:a84 c=true)
 {cur:Nat}(cu:RFOk E fid N keep ro cur c){k:AExit→Frm→a02→Option R}{r:R}{Q:Exit→Act→World→Prop}(hQ:∀x F H I ρ a w,Now E e N F H I ρ a w→k x F H=some r→Q x.conv a w)
 {F:Frm}{H:a02}{I:Nat→Prop}{ρ:PMap}{a:Act}{w:World}(aj:Now E e N F H I ρ a w)(ac:a3x E e.m N keep call lf cur c F H k=some r):c.wpIn (wf ro) 0 E.P Q a w:=
 (d66 ok ae c).1 hd cu hQ aj ac
/-! ### a round -/
theorem c4n{I:Nat→Prop}{w:World}{ρ:PMap}{N:Nat}:∀{ps:List Nat} {vs:List AV} {cs:List Value} {F:Frm} {t:Array Value},FRel I w ρ N F t→VRels I w ρ vs cs→vs.length=ps.length→(∀p∈ps,p<N)→
 FRel I w ρ N (b2q F ps vs) ((ps.zip cs).foldl (λt (p,c)=>t.setIfInBounds p c) t)
 | [],[],cs,F,t,hF,h,_,_=>by simp only[VRels]at h;subst h;simpa[b2q]using hF
 | [],_::_,_,_,_,_,_,h,_=>by simp at h
 |_::_,[],_,_,_,_,_,h,_=>by simp at h
 |p::ps,v::vs,cs,F,t,hF,h,hl,hp=>by simp only[VRels]at h;obtain⟨c,aJ,rfl,h1,h2⟩:=h;simp only[b2q,List.zip_cons_cons,List.foldl_cons];have:=FRel.set (a:={ tmps:=t,defers:=[] }) (d:=some p) hF (λs hs=>by cases hs;exact hp p (by simp)) h1;exact c4n this h2 (by simpa using hl) (λq hq=>hp q (by simp[hq]))
def e6i(E:Env):Prop:=∀y ri,E.G.rnd y=some ri→a84 ri.asg=true∧a84 ri.body=true∧b4x ri.asg=true∧b4x ri.body=true
theorem c1z(ok:EnvOk E)(pE:e6i E){call:FuncId→List AV→a02→Option (AV×a02)}(ae:a35 E call)(lf:Nat):b0d E yId (a70 E call lf):=by
 intro args H v H' ac I K ρ w ak rel hn ha;rw[e2b];unfold a70 at ac;split at ac
 case h_2=>cases ac
 rename_i b vs;split at ac
 case h_2=>cases ac
 rename_i y F hb;split at ac
 case h_2=>cases ac
 rename_i ri gt;rw[cond_eq_ite]at ac;split at ac
 case isFalse=>cases ac
 rename_i hc;simp only[e9l,f7g,f2u,f2p]at hc;obtain⟨ai,fl⟩:=hc;simp only[VRels]at ha;obtain⟨c0,pa,rfl,h0,eH⟩:=ha;simp only[VRel]at h0;obtain⟨m,hm,rfl⟩:=h0;obtain⟨m',aV,dg,e9,uu,r,g0,g1,g2,g3,g4,g5,g6,g7⟩:=rel.live b _ hb;obtain rfl:m=m':=z9o (hm.symm.trans aV);rw[gt]at g0;cases g0;obtain⟨d1,d2,d3,d4⟩:=pE y ri gt;have bJ:pa.toArray.size=r.params.size:=by have:=VRels.length eH;rw[←f2t (xs:=r.params),g3];simp;omega
 refine⟨m.blk,pa,r.fn,_,r.assign,r.body,rfl,run_yield g1 bJ,roundIn_of_wpIn (F:=Fence.wide) trivial ?_⟩;rw[g4]
 let e:Entry:=⟨I,K,ρ,H.length,w⟩
 have qD:b<H.length:=b87 hb;have qh:FRel I w ρ ri.N (b2q F ri.ps vs) ((r.params.zip pa.toArray).foldl (λtmps (t,a)=>tmps.setIfInBounds t a) r.tmps):=by
  have h1:FRel I w ρ ri.N F r.tmps:=⟨g2,λs=>by have:=g6 s;rwa [b2o]at this⟩
  have:=c4n (ps:=ri.ps) h1 eH ai fl;rw[←g3]at this⊢;rw[←Array.foldl_toList,Array.toList_zip];exact this
 have aj:Now E e ri.N (b2q F ri.ps vs) H I ρ { tmps:=(r.params.zip pa.toArray).foldl (λtmps (t,a)=>tmps.setIfInBounds t a) r.tmps,defers:=[] } w:=⟨λ_ h=>h,λ_ _=>rfl,Ext.refl _ _ _,rel,hn,qh,f1u _,Marks.nil⟩
 have rf:∀c,b4x c=true→RFOk E ri.fid ri.N (E.keep ri.fid) (some m.blk) 0 c:=λc h=>⟨λ_=>h,λx hx=>by rw[a60 c 0 h]at hx;cases hx⟩
 refine b8l (e:=e) (ro:=some m.blk) ok ae ri.asg d1 (rf _ d3) ?_ aj ac;intro x F1 H1 I1 ρ1 a1 w1 a9 hk
 -- the record,wherever the run has come to
 have jN:∀{F1 H1 I1 ρ1 a1 w1 y1 F0 st},Now E e ri.N F1 H1 I1 ρ1 a1 w1→a01 H1 b=some (.yloop y1 F0 st)→ρ1 b=some m∧∃r1:Loop,w1.heap[m.blk]?=some (.loop r1)∧(st = .ready→r1.state = .ready):=by
  intro F1 H1 I1 ρ1 a1 w1 y1 F0 st a9 cj;have eg:ρ1 b=some m:=by rw[a9.map b qD];exact hm
  obtain⟨m1,q1,_,_,_,r1,_,q2,_,_,_,_,_,q3⟩:=a9.rel.live b _ cj;obtain rfl:m=m1:=z9o (eg.symm.trans q1);exact⟨eg,r1,q2,λe=>by subst e;exact q3.1⟩
 cases x with
 |exit id=>cases hk
 |ret=>cases hk
 |normal=>
  dsimp only at hk;split at hk
  case h_2=>cases hk
  rename_i ur kz;obtain⟨y1,F0,cj,rfl⟩:=b98 kz;obtain⟨eg,r1,eA,fX⟩:=jN a9 cj;have dV:=a9.yput (new:=.busy) (r':={ r1 with state:=.busy }) cj eg eA ⟨rfl,rfl,rfl,rfl⟩ rfl;refine⟨_,run_beginRound eA (fX rfl),?_⟩;rw[g5];refine b8l (e:=e) (ro:=some m.blk) ok ae ri.body d2 (rf _ d4) ?_ dV hk;intro x F3 H3 I3 ρ3 a3 w3 l7 hk;have fin:∀(new:YSt) (bb:Bool) (jump:Option Code),jump.isNone=bb→(c3l H3 b .busy new).map (.bool bb,·)=some (v,H')→(match new with
   |.ready=>jump=none
   |.busy=>False
   |.done j=>jump=some (c48 j))→
   ∃v1 w4,(Instr.endRound m.blk jump).run E.P w3 = .ok v1 w4∧∃c I' ρ',Ending.returned v1 = .returned c∧Ret E I K ρ H.length w I' ρ' H' w4∧VRel I' w4 ρ' v c:=by
   intro new bb jump hj hk aQ;obtain⟨H4,kz,he⟩:=a05 hk;cases he;obtain⟨y3,F4,mn,rfl⟩:=b98 kz;obtain⟨fw,r3,lW,_⟩:=jN l7 mn;have j2:=l7.yput (new:=new) (r':={ r3 with state:=if jump.isNone then .ready else .done,pending:=jump }) mn fw lW ⟨rfl,rfl,rfl,rfl⟩ (by
    cases new with
    |ready=>dsimp only at aQ⊢;subst aQ;exact⟨rfl,rfl⟩
    |busy=>exact aQ.elim
    |done j=>dsimp only at aQ⊢;subst aQ;exact⟨rfl,rfl⟩)
   exact⟨_,_,run_endRound jump lW,_,I3,ρ3,rfl,⟨j2.imm,j2.map,j2.ext,j2.rel,j2.nrel,j2.low⟩,by simp only[VRel];rw[hj]⟩
  cases x with
  |normal=>exact fin .ready true none rfl hk rfl
  |ret=>exact fin (.done none) false (some .ret) rfl hk rfl
  |exit id=>exact fin (.done (some id)) false (some (.exit id)) rfl hk rfl
end
end Go.Ax
/- AxFun: functions. -/
namespace Go.Ax
section
variable {E:Env}{I K:Nat→Prop}{ρ:PMap}{h:FHeap}{w:World}
theorem d2k(ok:EnvOk E)(r:HRel E.G I K ρ h w){t:TypeId}{p v:AV}{c:Value}(hl:a5e E h t p=some v)(hp:VRel I w ρ p c) :
 ∃a d,c = .pointer (some a)∧(loadVar t a).run E.P w = .ok d w∧VRel I w ρ v d:=by
 cases p with
 |ptr b i o=>
  simp only[a5e]at hl;cases hb:h b with
  |none=>simp[hb]at hl
  |some ob=>
   cases ob with
   |row k rows=>
    simp only[hb]at hl;cases hr:rows[i]? with
    |none=>simp[hr]at hl
    |some rw'=>
     simp only[hr]at hl;obtain⟨m,hm,_,_,ho⟩:=r.live b _ hb;obtain⟨hk,hk0,_,az⟩:=ho;obtain⟨ai,aW⟩:=VRows.get i az hr;simp only[VRel]at hp;obtain⟨m',aV,rfl⟩:=hp;obtain rfl:m=m':=z9o (hm.symm.trans aV);by_cases bJ:o≤rw'.length
     ·have iZ:VAt I w ρ ((rw'.drop o).take (E.sz t)) m.blk (m.off+i*m.k+o):=by
       rw[hk];exact VAt.take _ (VAt.drop o bJ aW)
      obtain⟨c,hc,hv⟩:=a6z ok hl iZ;exact⟨_,c,rfl,hc,hv⟩
     ·have:rw'.drop o=[]:=f6j (by omega);rw[this]at hl;unfold a2k at hl;simp only[List.take_nil,f0g]at hl;rw[cond_eq_ite]at hl;split at hl
      ·rename_i h0;cases hd:E.und t with
       |none=>simp[hd]at hl
       |some d=>
        simp only[hd]at hl;have h0:E.sz t=0:=(show 0=E.sz t by simpa using h0).symm;cases dC:a2d d with
        |true=>simp[dC]at hl;subst hl;refine⟨_,.agg #[],rfl,?_,by simp only[VRel];exact⟨#[],rfl,by simp[VRels]⟩⟩;simp[loadVar,b2t ok w hd,dC,a36 ok w hd,h0,loadCells,loadCellsFrom]
        |false=>simp[dC]at hl
      ·cases hl
   |map ks vs bs cl=>simp[hb]at hl
   |siter s pos=>simp[hb]at hl
   |uset ks=>simp[hb]at hl
   |miter ks cG cT=>simp[hb]at hl
   |yloop y Fy st=>simp[hb]at hl
 |iptr cs=>simp only[a5e]at hl;simp only[VRel]at hp;obtain⟨b,off,rfl,hI,aW⟩:=hp;obtain⟨c,hc,hv⟩:=a6z ok hl (VAt.take _ aW);exact⟨_,c,rfl,hc,VRel.noRef_any hv⟩
 |_=>simp[a5e]at hl
def e6x(tmps:Array Value):ResultVar→Sem Value:=fun
 |.tmp t=>pure (tmps.getD t undef)
 |.cell a t=>do loadVar t (←asAddr (tmps.getD a undef))
theorem a9c(ok:EnvOk E){H:a02}{F:Frm}{tmps:Array Value}(r:HRel E.G I K ρ (a01 H) w)(hF:∀s,VRel I w ρ (a38 F s) (tmps.getD s undef)) :
 ∀(rs:List ResultVar) {vs:List AV},a18 E F H rs=some vs→∃cs:List Value,(rs.mapM (e6x tmps)).run E.P w = .ok cs w∧VRels I w ρ vs cs
 | [],vs,ha=>by simp only[a18,Option.some.injEq]at ha;subst ha;exact⟨[],by simp,by simp[VRels]⟩
 |.tmp t::rs,vs,ha=>by
  unfold a18 at ha;split at ha
  case h_2=>cases ha
  rename_i d5 h1;cases ha;obtain⟨cs,h2,h3⟩:=a9c ok r hF rs h1;refine⟨tmps.getD t undef::cs,?_,by simp only[VRels];exact⟨_,_,rfl,hF t,h3⟩⟩;simp only[List.mapM_cons,e6x,Sem.run_bind,Sem.run_pure,Result.andThen_ok,h2]
 |.cell a t::rs,vs,ha=>by
  unfold a18 at ha;split at ha
  case h_2=>cases ha
  rename_i v d5 h0 h1;cases ha;obtain⟨cs,h2,h3⟩:=a9c ok r hF rs h1;obtain⟨ad,d,h4,h5,h6⟩:=d2k ok r h0 (hF a);refine⟨d::cs,?_,by simp only[VRels];exact⟨_,_,rfl,h6,h3⟩⟩;simp only[List.mapM_cons,e6x,h4,asAddr,Sem.run_bind,Sem.run_pure,Result.andThen_ok,h2,h5]
theorem c5v(ok:EnvOk E){fn:Func}{H:a02}{F:Frm}{tmps:Array Value}(r:HRel E.G I K ρ (a01 H) w)(hF:∀s,VRel I w ρ (a38 F s) (tmps.getD s undef)){vs:List AV}(ha:a18 E F H fn.results.toList=some vs) :
 ∃c,(results fn tmps).run E.P w = .ok c w∧VRel I w ρ (a66 vs) c:=by
 obtain⟨cs,h1,h2⟩:=a9c ok r hF _ ha;have ac:(results fn tmps).run E.P w = .ok (if h:cs.toArray.size=1 then cs.toArray[0]else .tuple cs.toArray) w:=by have:results fn tmps=(do let vs←fn.results.mapM (e6x tmps);pure (if h:vs.size=1 then vs[0]else .tuple vs)):=rfl;rw[this,Array.mapM_eq_mapM_toList];simp only[bind_map_left,Sem.run_bind,h1,Result.andThen_ok,Sem.run_pure]
 refine⟨_,ac,?_⟩
 match vs,cs,h2 with
 | [],cs,h2=>simp only[VRels]at h2;subst h2;simp only[a66,VRel];exact⟨#[],by simp,by simp[VRels]⟩
 | [v],cs,h2=>simp only[VRels]at h2;obtain⟨c,aJ,rfl,h3,rfl⟩:=h2;simpa[a66]using h3
 |v::v'::vs,cs,h2=>have dI:=h2;simp only[VRels]at h2;obtain⟨c,_,rfl,_,c',aJ,rfl,_,_⟩:=h2;simp only[a66,VRel];exact⟨_,by simp,dI⟩
theorem b6l:∀(args:List AV) (i s:Nat),a38 (a4n i args) s=if i≤s then(args[s-i]?).getD .junk else .junk
 | [],i,s=>by simp[a4n,a38]
 |v::vs,i,s=>by
  simp only[a4n,a38,d2w,b6l vs (i+1) s];by_cases h:i=s
  ·subst h;simp
  ·rw[f3k.2 h];by_cases h1:i<s
   ·simp only[f2z];rw[f1r (by omega),f1r (by omega),show s-i=(s-(i+1))+1 by omega,f1q]
   ·simp only[f2z];rw[f0j (by omega),f0j (by omega)]
theorem d1h{args:List AV}{ak:List Value}{n:Nat}(hn:args.length≤n)(h:VRels I w ρ args ak):FRel I w ρ n (a4n 0 args) (ak.toArray++Array.replicate (n-ak.toArray.size) undef):=by
 have ai:=VRels.length h;refine⟨by simp;omega,λs=>?_⟩;rw[b6l];simp only[f0h,f4b,Nat.sub_zero];cases hs:args[s]? with
 |none=>simp[VRel]
 |some v=>have ep:=(e9k.1 hs).1;obtain⟨c,hc,hv⟩:=VRels.get s h hs;simp only[f3i,f2y];rw[Array.getElem?_append_left (by simp;omega)];simp only[f4h,hc,f3i];exact hv
theorem d83{m:Nat}{v v':AV}{c:Value}{H:a02}(eM:a3i m true (a58 (a01 H) m 12) v=some v')(hm:m≤H.length)(r:HRel E.G I K ρ (a01 H) w)(hn:NRel ρ H.length)(hv:VRel I w ρ v c) :
 ∃I' ρ',(∀c,I c→I' c)∧(∀b,b<m→ρ' b=ρ b)∧HRel E.G I' K ρ' (a01 ((H.take m).map (Option.map (a0g (a1b m))))) w∧NRel ρ' ((H.take m).map (Option.map (a0g (a1b m)))).length∧m≤((H.take m).map (Option.map (a0g (a1b m)))).length∧VRel I' w ρ' v' c:=by
 have ai:((H.take m).map (Option.map (a0g (a1b m)))).length=m:=by simp;omega
 obtain⟨h1,h2⟩:=a9u (h':=a01 ((H.take m).map (Option.map (a0g (a1b m))))) r eM hv (by
  intro b o' hb;simp only[a01,f0d,f4r]at hb;split at hb
  case isFalse=>simp at hb
  rename_i ag;cases hx:H[b]? with
  |none=>rw[hx]at hb;simp at hb
  |some ob=>rw[hx]at hb;simp only[f0e,f3n]at hb;obtain⟨o,rfl,rfl⟩:=a05 hb;exact⟨o,ag,by simp[a01,hx],rfl⟩)
 refine⟨_,_,λ_ h=>.inl h,λb hb=>by simp[PMap.below,hb],h1,?_,by rw[ai];exact f1u _,h2⟩;intro b hb;rw[ai]at hb;simp only[PMap.below];rw[f0j (by omega)]
theorem e06{m:Nat}{v v':AV}{c:Value}{H H':a02}(hf:d7w m v H=some (v',H'))(hm:m≤H.length)(r:HRel E.G I K ρ (a01 H) w)(hn:NRel ρ H.length)(hv:VRel I w ρ v c) :
 ∃I' ρ',(∀c,I c→I' c)∧(∀b,b<m→ρ' b=ρ b)∧HRel E.G I' K ρ' (a01 H') w∧NRel ρ' H'.length∧m≤H'.length∧VRel I' w ρ' v' c:=by
 unfold d7w at hf;split at hf
 case h_2=>cases hf;exact⟨I,ρ,λ_ h=>h,λ_ _=>rfl,r,hn,hm,hv⟩
 case h_3=>cases hf;exact⟨I,ρ,λ_ h=>h,λ_ _=>rfl,r,hn,hm,hv⟩
 case h_4=>cases hf;exact⟨I,ρ,λ_ h=>h,λ_ _=>rfl,r,hn,hm,hv⟩
 case h_5=>cases hf;exact⟨I,ρ,λ_ h=>h,λ_ _=>rfl,r,hn,hm,hv⟩
 case h_6=>cases hf;exact⟨I,ρ,λ_ h=>h,λ_ _=>rfl,r,hn,hm,hv⟩
 case h_7=>cases hf;obtain⟨I',ρ',f⟩:=d83 (v:=.nilslice) (v':=.nilslice) rfl hm r hn hv;exact⟨I',ρ',f⟩
 case h_8=>cases hf
 rename_i b i o;rw[cond_eq_ite]at hf;split at hf
 case isFalse=>cases hf
 rename_i oR;rw[f4k]at oR;split at hf
 case h_2=>cases hf
 rename_i k rows hb;split at hf
 case h_2=>cases hf
 rename_i be eM;cases hf;simp only[VRel]at hv;obtain⟨p,hp,rfl⟩:=hv;obtain⟨p',fM,dg,e9,hk,hk0,⟨bR,e,mo,nY,qI⟩,az⟩:=r.live b _ hb;obtain rfl:p=p':=z9o (hp.symm.trans fM);have i9:∀x,a4o (a01 H) b x=if x=b then none else a01 H x:=by
  intro x;unfold a4o;by_cases h:x=b
  ·subst h;rw[f1r rfl,show Nat.beq x x=true from Nat.beq_refl x];rfl
  ·rw[f0j h,show Nat.beq x b=false from by
    cases hq:Nat.beq x b with
    |false=>rfl
    |true=>exact absurd (f4s hq) h]
   rfl
 have r0:HRel E.G I K ρ (a4o (a01 H) b) w:=r.fewer (λx ob hx=>by
  rw[i9]at hx;split at hx
  ·cases hx
  ·exact hx)
 have ai:((H.take m).map (Option.map (a0g (a1b m)))).length=m:=by simp;omega
 have bg:∀x o',a01 ((H.take m).map (Option.map (a0g (a1b m)))) x=some o'→∃o,x<m∧a4o (a01 H) b x=some o∧o'=a0g (a1b m) o:=by
  intro x o' hx;simp only[a01,f0d,f4r]at hx;split at hx
  case isFalse=>simp at hx
  rename_i ag;cases hxx:H[x]? with
  |none=>rw[hxx]at hx;simp at hx
  |some ob=>rw[hxx]at hx;simp only[f0e,f3n]at hx;obtain⟨o,rfl,rfl⟩:=a05 hx;exact⟨o,ag,by rw[i9,f0j (by omega)];simp[a01,hxx],rfl⟩
 have h1:=(a9u (h':=a01 ((H.take m).map (Option.map (a0g (a1b m))))) r0 (v:=.junk) (v':=.junk) (c:=.nilFunc) (n:=12) (m:=m) rfl (by simp[VRel]) bg).1;have pS:¬a3n I ρ (a4o (a01 H) b) m p.blk:=by
  rintro(hc|⟨b',o',q,aL,dT,hq,he⟩)
  ·exact dg hc
  ·rw[i9]at dT;split at dT
   ·cases dT
   ·rename_i au;exact au (r.inj b' b q p (by simp[dT]) (by simp[hb]) hq hp he)
 have hI:∀c,I c→a3n I ρ (a4o (a01 H) b) m c:=λc hc=>.inl hc;have e8:=c2t hI (a5j r0 12) rows eM az
 let ρ':PMap:=λx=>if x=m then some p else ρ.below m true x
 have hρ:∀x q,ρ.below m true x=some q→ρ' x=some q:=by
  intro x q hx;have ag:x<m:=by
   simp only[PMap.below]at hx;split at hx
   ·rename_i h;exact h.2
   ·cases hx
  show(if x=m then some p else ρ.below m true x)=some q;rw[f0j (by omega)];exact hx
 have sE:∀x,a01 ((H.take m).map (Option.map (a0g (a1b m)))++[some (.row k be)]) x=if x=m then some (.row k be)else a01 ((H.take m).map (Option.map (a0g (a1b m)))) x:=by
  intro x;unfold a01;by_cases hx:x<m
  ·rw[f0i (by rw[ai];exact hx),f0j (by omega)]
  ·rw[f1n (by rw[ai];omega),ai];by_cases dy:x=m
   ·subst dy;rw[f1r rfl,Nat.sub_self];rfl
   ·rw[f0j dy];have e1:([some (AObj.row k be)]:a02)[x-m]?=none:=f2n (by simp;omega);have e2:((H.take m).map (Option.map (a0g (a1b m))))[x]?=none:=f2n (by rw[ai];omega);rw[e1,e2]
 refine⟨a3n I ρ (a4o (a01 H) b) m,ρ',hI,?_,?_,?_,?_,?_⟩
 ·intro x hx;show(if x=m then some p else ρ.below m true x)=ρ x;rw[f0j (by omega)];simp[PMap.below,hx]
 ·refine⟨?_,?_,?_,h1.imm,h1.kept,h1.apart,?_⟩
  ·intro x ob hx;rw[sE]at hx;split at hx
   ·rename_i dy;cases hx;refine⟨p,by show(if x=m then some p else _)=some p;rw[f1r dy],pS,e9,hk,hk0,⟨bR,e,mo,nY,by rw[a96 eM];exact qI⟩,?_⟩;exact VRows.mono (λ_ h=>h) (λ_ _=>rfl) be hρ rfl e8
   ·obtain⟨q,hq,h3,h4,h5⟩:=h1.live x ob hx;exact⟨q,hρ x q hq,h3,h4,ORel.mono ob (λ_ h=>h) (λ_ _=>rfl) hρ rfl h5⟩
  ·intro x y q q' hx hy rB pG he;rw[sE]at hx hy;have low:∀z q,z≠m→(a01 ((H.take m).map (Option.map (a0g (a1b m)))) z).isSome→ρ' z=some q→ρ.below m true z=some q∧z<m∧ρ z=some q∧(a01 H z).isSome:=by
    intro z q hz hs hq;have fk:ρ.below m true z=some q:=by have:(if z=m then some p else ρ.below m true z)=some q:=hq;rw[f0j hz]at this;exact this
    obtain⟨ob,ho⟩:=f0c.1 hs;obtain⟨o1,ag,d7,_⟩:=bg z ob ho;rw[i9,f0j (by omega)]at d7;refine⟨fk,ag,?_,by rw[d7];rfl⟩;simp only[PMap.below]at fk;rw[f1r ⟨trivial,ag⟩]at fk;exact fk
   by_cases dy:x=m
   ·by_cases kA:y=m
    ·rw[dy,kA]
    ·exfalso;rw[f0j kA]at hy;obtain⟨_,h4,h5,h6⟩:=low y q' kA hy pG;have pH:q=p:=by
      have:(if x=m then some p else ρ.below m true x)=some q:=rB;rw[f1r dy]at this;exact(z9o this).symm
     subst pH;have:=r.inj b y q q' (by simp[hb]) h6 hp h5 he;omega
   ·rw[f0j dy]at hx;obtain⟨h3,h4,h5,h6⟩:=low x q dy hx rB;by_cases kA:y=m
    ·exfalso;have pH:q'=p:=by
      have:(if y=m then some p else ρ.below m true y)=some q':=pG;rw[f1r kA]at this;exact(z9o this).symm
     subst pH;have:=r.inj x b q q' h6 (by simp[hb]) h5 hp he;omega
    ·rw[f0j kA]at hy;obtain⟨g3,_⟩:=low y q' kA hy pG;exact h1.inj x y q q' hx hy h3 g3 he
  ·intro x q hx;have:(if x=m then some p else ρ.below m true x)=some q:=hx;split at this
   ·cases this;exact r.dom b p hp
   ·exact h1.dom x q this
  ·intro g cs hg;exact h1.glob g cs hg
 ·intro x hx;rw[f1o,ai]at hx;simp only[e9m,f0g]at hx;show(if x=m then some p else ρ.below m true x)=none;rw[f0j (by omega)];simp only[PMap.below];rw[f0j (by omega)]
 ·rw[f1o,ai];omega
 ·simp only[VRel];exact⟨p,by show(if m=m then some p else _)=some p;rw[f1r rfl],rfl⟩
theorem d19{thaw:Bool}{m:Nat}{v v':AV}{c:Value}{H H':a02}(hf:a10 thaw m v H=some (v',H'))(hm:m≤H.length)(r:HRel E.G I K ρ (a01 H) w)(hn:NRel ρ H.length)(hv:VRel I w ρ v c) :
 ∃I' ρ',(∀c,I c→I' c)∧(∀b,b<m→ρ' b=ρ b)∧HRel E.G I' K ρ' (a01 H') w∧NRel ρ' H'.length∧m≤H'.length∧VRel I' w ρ' v' c:=by
 unfold a10 at hf;rw[cond_eq_ite]at hf;split at hf
 ·rw[cond_eq_ite]at hf;split at hf
  ·exact e06 hf hm r hn hv
  ·cases hf;exact⟨I,ρ,λ_ h=>h,λ_ _=>rfl,r,hn,hm,hv⟩
 ·split at hf
  case h_2=>cases hf;exact⟨I,ρ,λ_ h=>h,λ_ _=>rfl,r,hn,hm,hv⟩
  rename_i v1 eM;cases hf;exact d83 eM hm r hn hv
end
structure DrOk(E:Env):Prop where
 draws:∀f i,E.fn f=some i→a84 i.code=true
 rf:∀f i,E.fn f=some i→∀x∈rfs i.ntmps f 0 i.code,∃y,yOf (E.keep f x.1)=some y∧E.G.rnd y=some x.2
 rnd:e6i E
 prim:∀f args v H1,E.prim f args=some (v,H1)→b0d E f λa H=>match a,H with
  |a,[]=>E.prim f a
  |_,_=>none
theorem DrOk.code{E:Env}(h:DrOk E){f:FuncId}{i:FInfo}(hi:E.fn f=some i):RFOk E f i.ntmps (E.keep f) none 0 i.code:=⟨λh=>by simp at h,h.rf f i hi⟩
def f0s(E:Env)(g:FuncId)(m:Nat)(rs:List ResultVar):AExit→Frm→a02→Option (AV×a02)
 |.exit _,_,_=>none
 |_,F,H=>match a18 E F H rs with
  |some vs=>a10 (E.thaw g) m (a66 vs) H
  |none=>none
theorem e5h{E:Env}(ok:EnvOk E){g:FuncId}{i:FInfo}(hi:E.fn g=some i){args:List AV}{H H':a02}{v:AV}(bd:Nat.ble args.length i.ntmps=true)
 {k:AExit→Frm→a02→Option (AV×a02)}(nq:∀x F1 H1 r,k x F1 H1=some r→f0s E g H.length i.results x F1 H1=some r)
 (nL:∀{e:Entry} {Q:Exit→Act→World→Prop},e.m=H.length→(∀x F1 H1 I ρ a w,Now E e i.ntmps F1 H1 I ρ a w→k x F1 H1=some (v,H')→Q x.conv a w)→
  ∀{I:Nat→Prop} {ρ:PMap} {a:Act} {w:World},Now E e i.ntmps (a4n 0 args) H I ρ a w→i.code.wpIn (wf none) 0 E.P Q a w)
 {I K:Nat→Prop}{ρ:PMap}{w:World}{ak:List Value}(rel:HRel E.G I K ρ (a01 H) w)(hn:NRel ρ H.length)(ha:VRels I w ρ args ak) :
 XOf E g ak w λen w'=>∃c I' ρ',en = .returned c∧Ret E I K ρ H.length w I' ρ' H' w'∧VRel I' w' ρ' v c:=by
 obtain⟨fn,h1,h2,h3,h4,_⟩:=ok.fn g i hi;rw[b0b (c6m ok hi)];refine callsIn_wide.1 (callsIn_of_wp_marks (F:=Fence.wide) (n:=0) h1 h2 trivial ?_);rw[h3]
 let e:Entry:=⟨I,K,ρ,H.length,w⟩
 have aj:Now E e i.ntmps (a4n 0 args) H I ρ { tmps:=ak.toArray++Array.replicate (i.ntmps-ak.toArray.size) undef,defers:=[] } w:=⟨λ_ h=>h,λ_ _=>rfl,Ext.refl _ _ _,rel,hn,d1h (by simpa[f4k]using bd) ha,f1u _,Marks.nil⟩
 refine nL (e:=e) rfl ?_ aj;intro x F1 H1 I1 ρ1 a w1 a9 hk;have hk:=nq _ _ _ _ hk;have fin:(match a18 E F1 H1 i.results with
  |some vs=>a10 (E.thaw g) H.length (a66 vs) H1
  |none=>none)=some (v,H')→LeavesInM Fence.wide 0 E.P fn a.tmps (λen w'=>∃c I' ρ',en = .returned c∧Ret E I K ρ H.length w I' ρ' H' w'∧VRel I' w' ρ' v c) a.defers .returning w1:=by
  intro hk;split at hk
  case h_2=>cases hk
  rename_i vs eH;rw[←h4]at eH;obtain⟨rs,q1,q2,q3⟩:=a9.marks;rw[q1];refine b1j rs w1 q2 (λr hr=>(q3 r hr).2.2) ?_;obtain⟨s1,s2,s3,s4,s5⟩:=b1e rs w1;have my:HRel E.G I1 K ρ1 (a01 H1) (a2r rs w1):=HRel.shut a9.rel (S:=(·∈rs)) (λc hc=>⟨(q3 c hc).1,_,(q3 c hc).2.2⟩) s1 s5;have hD:∀c,SameD w1 (a2r rs w1) c:=by
   intro c;by_cases hc:c∈rs
   ·exact .inr ⟨_,(q3 c hc).2.2⟩
   ·exact .inl (s5 c hc)
  have qS:∀s,VRel I1 (a2r rs w1) ρ1 (a38 F1 s) (a.tmps.getD s undef):=λs=>VRel.monoD (λc _=>hD c) _ (a9.frm.2 s);have qT:Ext I K w (a2r rs w1):=by refine⟨by rw[s3];exact a9.ext.os,by rw[s2];exact a9.ext.tape,by rw[s4];exact a9.ext.output,by rw[s1];exact a9.ext.size,λc hc=>?_⟩;have ag:c<w.heap.size:=hc.elim (rel.imm c) (rel.kept c);rw[s5 c (λhm=>by have h:w.heap.size≤c:=(q3 c hm).2.1;omega)];exact a9.ext.keep c hc
  obtain⟨c,hr,hv⟩:=c5v ok my qS eH;obtain⟨I2,ρ2,f1,f2,f3,f4,f5,f6⟩:=d19 hk a9.low my a9.nrel hv;exact⟨c,hr,c,I2,ρ2,rfl,⟨λc hc=>f1 c (a9.imm c hc),λb hb=>by rw[f2 b hb];exact a9.map b hb,qT,f3,f4,f5⟩,f6⟩
 cases x with
 |normal=>exact fin hk
 |exit id=>cases hk
 |ret=>exact fin hk
end Go.Ax
/- AxLive: which slots are read from a loop's head on. Definitions only: nothing rests on them. -/
namespace Go.Ax
def e40:List (Nat×List Nat)→Nat→List Nat
 | [],_=>[]
 |(i,l)::r,j=>bif Nat.beq i j then l else e40 r j
end Go.Ax
/- AxInst: the tables of the evaluator, read off a program. -/
namespace Go.Ax
/-! ### tables that are searched -/
inductive Tab(α:Type) where
 |nil
 |node (l:Tab α)(k:Nat)(v:α)(r:Tab α)
def Tab.get{α:Type}:Tab α→Nat→Option α
 |.nil,_=>none
 |.node l k v r,i=>bif Nat.blt i k then l.get i else bif Nat.beq i k then some v else r.get i
def Tab.all{α:Type}(p:Nat→α→Bool):Tab α→Bool
 |.nil=>true
 |.node l k v r=>p k v&&l.all p&&r.all p
theorem Tab.all_get{α:Type}{p:Nat→α→Bool}:∀{t:Tab α} {i:Nat} {x:α},t.all p=true→t.get i=some x→p i x=true
 |.nil,i,x,_,h=>by simp[Tab.get]at h
 |.node l k v r,i,x,ha,h=>by
  simp only[Tab.all,e9l]at ha;simp only[Tab.get,cond_eq_ite]at h;split at h
  ·exact Tab.all_get ha.1.2 h
  ·split at h
   ·rename_i hk;have:i=k:=by simpa using hk
    cases h;subst this;exact ha.1.1
   ·exact Tab.all_get ha.2 h
def Tab.toList{α:Type}:Tab α→List α
 |.nil=>[]
 |.node l _ v r=>l.toList++v::r.toList
def Tab.from{α:Type}:Nat→Tab α→Option Nat
 |lo,.nil=>some lo
 |lo,.node l k _ r=>match l.from lo with
  |some n=>bif Nat.beq n k then r.from (k+1)else none
  |none=>none
theorem Tab.from_len{α:Type}:∀{t:Tab α} {lo n:Nat},t.from lo=some n→n=lo+t.toList.length
 |.nil,lo,n,h=>by simp only[Tab.from,Option.some.injEq]at h;simp[Tab.toList,h]
 |.node l k v r,lo,n,h=>by
  unfold Tab.from at h;split at h
  case h_2=>cases h
  rename_i m hm;rw[cond_eq_ite]at h;split at h
  case isFalse=>cases h
  rename_i hk;have hk:m=k:=by simpa using hk
  have h1:=Tab.from_len hm;have h2:=Tab.from_len h;simp[Tab.toList];omega
theorem Tab.get_from{α:Type}:∀{t:Tab α} {lo n i:Nat} {x:α},t.from lo=some n→t.get i=some x→lo≤i∧t.toList[i-lo]?=some x
 |.nil,lo,n,i,x,_,h=>by simp[Tab.get]at h
 |.node l k v r,lo,n,i,x,hf,h=>by
  unfold Tab.from at hf;split at hf
  case h_2=>cases hf
  rename_i m hm;rw[cond_eq_ite]at hf;split at hf
  case isFalse=>cases hf
  rename_i hk;have hk:m=k:=by simpa using hk
  subst hk;have hl:=Tab.from_len hm;simp only[Tab.get,cond_eq_ite]at h;split at h
  ·rename_i ag;obtain⟨h1,h2⟩:=Tab.get_from hm h;have ag:i<m:=by simpa[f2p]using ag
   refine⟨h1,?_⟩;simp only[Tab.toList];rw[f0i (by omega)];exact h2
  ·split at h
   ·rename_i hk;have:i=m:=by simpa using hk
    cases h;subst this;refine⟨by omega,?_⟩;simp only[Tab.toList];rw[f1n (by omega),show i-lo-l.toList.length=0 by omega];rfl
   ·obtain⟨h1,h2⟩:=Tab.get_from hf h;refine⟨by omega,?_⟩;simp only[Tab.toList];rw[f1n (by omega),show i-lo-l.toList.length=(i-(m+1))+1 by omega,f1q];exact h2
/-! ### the tables of a program -/
def d79(T:Tab TypeInfo)(t:TypeId):Option TypeDesc:=
 match T.get t with
 |some i=>match i.desc with
  |.named _ u=>match T.get u with
   |some j=>some j.desc
   |none=>none
  |d=>some d
 |none=>none
def d8k(T:Tab TypeInfo)(t:TypeId):Option (List AV):=
 match T.get t with
 |some i=>match i.zero with
  |some z=>bif (d79 T t).isSome&&Nat.beq z.cells.toList.length i.size then some (z.cells.toList.map a3u)else none
  |none=>none
 |none=>none
def e5p(P:Program)(T:Tab TypeInfo)(t:TypeId):Bool:=
 !(P.eqGuardType P.depth t) && !(P.stoodInHeld t)&&(match T.get t with|some i=>i.comparable|none=>false) &&
  (match d79 T t with|some (.struct fs)=>fs.toList.all (λf=>!(f.name == "_"))|_=>true)
def d7j(T:Tab TypeInfo)(t:Nat)(i:TypeInfo):Bool:=
 match d79 T t,i.zero with
 |some d,some (.agg _)=>a2d d
 |some d,some _=>!(a2d d)
 |_,_=>true
structure Laid where
 P:Program
 T:Tab TypeInfo
 F:Tab Func
 keep:Tab (List (Nat×List Nat))
 eqs:Tab Bool
 G:Nat→Option (List AV)
 thaw:Nat→Bool
 ro:Nat→Bool
 ext:Nat→Bool
 lend:Nat→Bool:=λ_=>false
 prim:Nat→List AV→Option (AV×a02):=λ_ _=>none
 zf:Nat→Bool:=λ_=>false
def Laid.rnd(L:Laid)(y:Nat):Option RInfo:=match L.F.get (y/100000)with
 |some fn=>match fn.body with
  |some c=>a6n (y%100000) (rfs fn.ntmps (y/100000) 0 c)
  |none=>none
 |none=>none
def c3v(keep:Nat→List Nat)(f:Nat)(l:List (Nat×RInfo)):Bool:=a54 (l.map (·.1))&&l.all λx=>Nat.blt x.1 100000&&(match yOf (keep x.1)with|some y=>Nat.beq y (f*100000+x.1)|none=>false)&&a84 x.2.asg&&a84 x.2.body&&b4x x.2.asg&&b4x x.2.body
def Laid.env(L:Laid):Env:={
 P:=L.P
 und:=d79 L.T
 sz:=λt=>match L.T.get t with|some i=>i.size|none=>0
 bytes:=λt=>match L.T.get t with|some i=>i.bytes|none=>0
 zero:=d8k L.T
 eqok:=λt=>match L.eqs.get t with|some b=>b|none=>false
 G:=⟨L.G,L.rnd⟩
 fn:=λf=>match L.F.get f with
  |some fn=>match fn.body with
   |some c=>some ⟨c,fn.ntmps,fn.results.toList⟩
   |none=>none
  |none=>none
 keep:=λf=>match L.keep.get f with|some l=>e40 l|none=>λ_=>[]
 thaw:=L.thaw
 ro:=L.ro
 ext:=λf=>L.ext f||(L.lend f&&(match L.F.get f with|some fn=>fn.body.isSome|none=>false))
 prim:=L.prim
 zf:=L.zf }
structure LaidOk(L:Laid):Prop where
 types:∀i x,L.T.get i=some x→L.P.types[i]?=some x
 funcs:∀i x,L.F.get i=some x→L.P.funcs[i]?=some x
 shape:L.T.all (d7j L.T)=true
 names:L.F.all (λ_ fn=>!(fn.name == "runtime.NumGoroutine"))=true
 eqs:L.eqs.all (λt b=>!b||e5p L.P L.T t)=true
 ext:∀f,L.ext f=true→∃fn,L.P.funcs[f]?=some fn∧fn.body=none∧(fn.name == "runtime.NumGoroutine")=false∧Extern.findNext fn=none∧Extern.find fn=some Extern.BytealgIndexByte.indexByte
 mixed:L.P.follows .mixedOrders=true
 draws:L.F.all (λ_ fn=>match fn.body with|some c=>a84 c|none=>true)=true
 yid:(L.F.get yId).isNone=true
 rf:L.F.all (λf fn=>match fn.body with|some c=>c3v (L.env.keep f) f (rfs fn.ntmps f 0 c)|none=>true)=true
theorem b6k{α:Type}{t:Tab α}{l:List α}{n:Nat}(h1:t.from 0=some n)(h2:t.toList=l):∀i x,t.get i=some x→l.toArray[i]?=some x:=by intro i x h;obtain⟨_,h3⟩:=Tab.get_from h1 h;rw[h2]at h3;simpa using h3
section
variable {L:Laid}(ok:LaidOk L)
include ok
theorem b0t{t:Nat}{i:TypeInfo}(h:L.T.get t=some i):L.P.info? t=some i:=by have h1:=ok.types t i h;have h2:=(f3d.1 h1).1;show(if t<L.P.types.size then L.P.types[t]? else _)=_;rw[f1r h2];exact h1
theorem d78{t:Nat}{d:TypeDesc}(h:d79 L.T t=some d):L.P.underlying t=some d∧∃i,L.T.get t=some i:=by
 unfold d79 at h;split at h
 case h_2=>cases h
 rename_i i hi;refine⟨?_,i,hi⟩;have h1:=b0t ok hi;unfold Program.underlying;rw[h1];split at h
 ·rename_i nm u hd;split at h
  case h_2=>cases h
  rename_i j hj;cases h;have h2:=b0t ok hj;cases i;simp only at hd;subst hd;simp[h2]
 ·rename_i d' au;cases h;cases i;rename_i dd _ _ _ _ _ _ _ _ _;cases dd<;>first|rfl|exact absurd rfl (au _ _)
theorem LaidOk.envOk:EnvOk L.env:={
 und t d h:=by obtain⟨h1,i,hi⟩:=d78 ok h;exact⟨h1,i,b0t ok hi,by simp[Laid.env,hi],by simp[Laid.env,hi]⟩
 zero t cs h:=by
  have h:d8k L.T t=some cs:=h;unfold d8k at h;split at h
  case h_2=>cases h
  rename_i i hi;split at h
  case h_2=>cases h
  rename_i z hz;rw[cond_eq_ite]at h;split at h
  case isFalse=>cases h
  rename_i hc;simp only[e9l,f7g]at hc;cases h;refine⟨f0c.1 hc.1,i,z,b0t ok hi,hz,by simp[Laid.env,hi,hc.2],λI w=>a7d _⟩
 zshape t d i z hd hi hz:=by
  obtain⟨_,j,hj⟩:=d78 ok hd;have gv:=b0t ok hj;have:i=j:=z9o (hi.symm.trans gv);subst this;have hs:=Tab.all_get ok.shape hj;have hd:d79 L.T t=some d:=hd;simp only[d7j,hd,hz]at hs;cases z with
  |agg a=>simp only at hs;exact⟨λ_=>⟨a,rfl⟩,λh=>by rw[hs]at h;cases h⟩
  |_=>simp only[f3z]at hs;exact⟨λh=>(by rw[hs]at h;cases h),λ_=>rfl⟩
 eqok t h:=by
  have h:(match L.eqs.get t with|some b=>b|none=>false)=true:=h;split at h
  case h_2=>cases h
  rename_i b hb;subst h;have h:=Tab.all_get ok.eqs hb;simp only[f6m,Bool.false_or,e5p,e9l,f3z]at h;obtain⟨⟨⟨h1,h2⟩,h3⟩,h4⟩:=h;refine⟨h1,h2,?_,?_⟩
  ·split at h3
   ·rename_i i hi;exact⟨i,b0t ok hi,h3⟩
   ·cases h3
  ·intro fs iR f hf;have iR:d79 L.T t=some (.struct fs):=iR;rw[iR]at h4;simp only[f2u,f3z,f3k]at h4;exact h4 f hf
 fn f i h:=by
  have h:(match L.F.get f with
   |some fn=>match fn.body with
    |some c=>some (⟨c,fn.ntmps,fn.results.toList⟩:FInfo)
    |none=>none
   |none=>none)=some i:=h
  split at h
  case h_2=>cases h
  rename_i fn bv;split at h
  case h_2=>cases h
  rename_i c hc;cases h;have hn:=Tab.all_get ok.names bv;exact⟨fn,ok.funcs f fn bv,hc,rfl,rfl,by simpa using hn⟩
 ext f h bv:=by
  have h:(L.ext f||(L.lend f&&(match L.F.get f with|some fn=>fn.body.isSome|none=>false)))=true:=h;have bv:(match L.F.get f with
   |some fn=>match fn.body with
    |some c=>some (⟨c,fn.ntmps,fn.results.toList⟩:FInfo)
    |none=>none
   |none=>none).isSome=false:=bv
  rcases Bool.or_eq_true_iff.1 h with h|h
  ·exact ok.ext f h
  ·exfalso;have h:=(Bool.and_eq_true_iff.1 h).2;cases hx:L.F.get f with
   |none=>rw[hx]at h;cases h
   |some fn=>
    rw[hx]at h bv;cases hb:fn.body with
    |none=>simp[hb]at h
    |some c=>simp[hb]at bv
 mixed:=ok.mixed
 yid:=by
  have h:=ok.yid;show(match L.F.get yId with
   |some fn=>match fn.body with
    |some c=>some (⟨c,fn.ntmps,fn.results.toList⟩:FInfo)
    |none=>none
   |none=>none)=none
  cases hx:L.F.get yId with
  |none=>rfl
  |some fn=>rw[hx]at h;cases h}
omit ok in
theorem Laid.fn_inv{f:Nat}{i:FInfo}(h:L.env.fn f=some i):∃fn c,L.F.get f=some fn∧fn.body=some c∧i=⟨c,fn.ntmps,fn.results.toList⟩:=by
 have h:(match L.F.get f with
  |some fn=>match fn.body with
   |some c=>some (⟨c,fn.ntmps,fn.results.toList⟩:FInfo)
   |none=>none
  |none=>none)=some i:=h
 split at h
 case h_2=>cases h
 rename_i fn bv;split at h
 case h_2=>cases h
 rename_i c hc;cases h;exact⟨fn,c,bv,hc,rfl⟩
omit ok in
theorem b6b{cur:Nat}{ri:RInfo}:∀{l:List (Nat×RInfo)},a6n cur l=some ri→(cur,ri)∈l
 | [],h=>by simp[a6n]at h
 |(c,r)::l,h=>by
  simp only[a6n,cond_eq_ite]at h;split at h
  ·rename_i hc;have hc:=f4s hc;cases h;subst hc;simp
  ·exact f7d _ (b6b h)
omit ok in
theorem c08{x:Nat×RInfo}:∀{l:List (Nat×RInfo)},(l.map (·.1)).Nodup→x∈l→a6n x.1 l=some x.2
 | [],_,h=>by cases h
 |(c,r)::l,hn,h=>by
  simp only[e12]at hn;have hn:=f5q.1 hn;simp only[a6n,cond_eq_ite];rcases f2s.1 h with rfl|h
  ·simp
  ·have au:c≠x.1:=λe=>hn.1 (by rw[e];exact f4f h);rw[f0j (by rw[f7g];exact au)];exact c08 hn.2 h
theorem LaidOk.good{f:Nat}{fn:Func}{c:Code}(bv:L.F.get f=some fn)(hc:fn.body=some c):c3v (L.env.keep f) f (rfs fn.ntmps f 0 c)=true:=by have:=Tab.all_get ok.rf bv;simpa[hc]using this
def e6j(L:Laid):Prop:=∀f args v H1,L.prim f args=some (v,H1)→b0d L.env f λa H=>match a,H with
 |a,[]=>L.env.prim f a
 |_,_=>none
theorem LaidOk.drawnP(hP:e6j L):DrOk L.env:={
 prim:=hP
 draws f i h:=by obtain⟨fn,c,bv,hc,rfl⟩:=Laid.fn_inv h;have:=Tab.all_get ok.draws bv;simpa[hc]using this
 rf f i h x hx:=by
  obtain⟨fn,c,bv,hc,rfl⟩:=Laid.fn_inv h;have hg:=ok.good bv hc;simp only[c3v,e9l,f2u]at hg;have ik:=hg.2 x hx;obtain⟨⟨⟨⟨⟨h1,h2⟩,_⟩,_⟩,_⟩,_⟩:=ik;split at h2
  case h_2=>cases h2
  rename_i y hy;have h2:=f4s h2;have h1:x.1<100000:=by simpa[f2p]using h1
  refine⟨y,hy,?_⟩;show L.rnd y=some x.2;have e1:y/100000=f:=by omega
  have e2:y%100000=x.1:=by omega
  unfold Laid.rnd;rw[e1,e2,bv];simp only[hc];exact c08 (a8j hg.1) hx
 rnd y ri h:=by
  have h:L.rnd y=some ri:=h;unfold Laid.rnd at h;split at h
  case h_2=>cases h
  rename_i fn bv;split at h
  case h_2=>cases h
  rename_i c hc;have hg:=ok.good bv hc;simp only[c3v,e9l,f2u]at hg;have ik:=hg.2 _ (b6b h);exact⟨ik.1.1.1.2,ik.1.1.2,ik.1.2,ik.2⟩}
theorem LaidOk.drawn(hP:∀f args,L.prim f args=none:=by intros;rfl):DrOk L.env:=ok.drawnP λf args v H1 h=>by rw[hP]at h;cases h
end
end Go.Ax
/- AxZ0: a function whose own memory is frozen behind each of its outermost statements: the run of its body. -/
namespace Go.Ax
def e20(E:Env)(m0 N:Nat)(keep:Nat→List Nat)(call:FuncId→List AV→a02→Option (AV×a02))(lf:Nat){R:Type}:Nat→Code→Frm→a02→(AExit→Frm→a02→Option R)→Option R
 |cur,.seq a b,F,H,k=>e20 E m0 N keep call lf cur a F H λe F' H'=>match e with
  |.normal=>e20 E m0 N keep call lf cur b (c2w m0 H' F') (c2v m0 H') k
  |e=>k e F' H'
 |cur,c,F,H,k=>a3x E m0 N keep call lf cur c F H k
theorem d67{E:Env}(ok:EnvOk E){call:FuncId→List AV→a02→Option (AV×a02)}(ae:a35 E call){fid:Nat}{e:Entry}{N lf:Nat}{keep:Nat→List Nat}{R:Type}:∀(c:Code),a84 c=true→
 ∀{cur:Nat},RFOk E fid N keep none cur c→∀{k:AExit→Frm→a02→Option R} {r:R} {Q:Exit→Act→World→Prop},(∀x F H I ρ a w,Now E e N F H I ρ a w→k x F H=some r→Q x.conv a w)→
 ∀{F:Frm} {H:a02} {I:Nat→Prop} {ρ:PMap} {a:Act} {w:World},Now E e N F H I ρ a w→e20 E e.m N keep call lf cur c F H k=some r→c.wpIn (wf none) 0 E.P Q a w:=by
 intro c
 induction c with
 |seq x y ihx ihy=>
  intro aw cur cu k r Q hQ F H I ρ a w aj ac;have aw:a34 false (.seq x y)=true:=aw;simp only[a34,e9l]at aw;refine wpIn_seq (ihx aw.1 cu.seq1 ?_ aj ac);intro x F H I ρ a w hn hk;cases x with
  |normal=>obtain⟨I',ρ',h'⟩:=hn.frz 0;exact ihy aw.2 cu.seq2 hQ h' hk
  |exit id=>exact hQ (.exit id) F H I ρ a w hn hk
  |ret=>exact hQ .ret F H I ρ a w hn hk
 |_=>intro aw cur cu k r Q hQ F H I ρ a w aj ac;exact b8l (ro:=none) ok ae _ aw cu hQ aj ac
def e8d(E:Env)(z:Bool)(m0 N:Nat)(keep:Nat→List Nat)(call:FuncId→List AV→a02→Option (AV×a02))(lf:Nat){R:Type}(cur:Nat)(c:Code)(F:Frm)(H:a02)(k:AExit→Frm→a02→Option R):Option R:=bif z then e20 E m0 N keep call lf cur c F H k else a3x E m0 N keep call lf cur c F H k
end Go.Ax
/- AxMemo: calls whose answer is known already. -/
namespace Go.Ax
def e36:List UInt8→List UInt8→Bool
 | [],[]=>true
 |a::r,b::s=>Nat.beq a.toNat b.toNat&&e36 r s
 |_,_=>false
theorem d1g:∀{a b:List UInt8},e36 a b=true→a=b
 | [],[],_=>rfl
 | [],_::_,h=>by simp[e36]at h
 |_::_,[],h=>by simp[e36]at h
 |a::r,b::s,h=>by simp only[e36,e9l,f7g]at h;rw[d1g h.2,UInt8.toNat_inj.1 h.1]
def eqO:Option Nat→Option Nat→Bool
 |none,none=>true
 |some a,some b=>Nat.beq a b
 |_,_=>false
theorem e5r{a b:Option Nat}(h:eqO a b=true):a=b:=by cases a<;>cases b<;>simp_all[eqO]
def eqI:Int→Int→Bool
 |.ofNat a,.ofNat b=>Nat.beq a b
 |.negSucc a,.negSucc b=>Nat.beq a b
 |_,_=>false
theorem e5s{a b:Int}(h:eqI a b=true):a=b:=by cases a<;>cases b<;>simp_all[eqI]
mutual
def eqV:AV→AV→Bool
 |.bool a,.bool b=>match a,b with|true,true=>true|false,false=>true|_,_=>false
 |.int k n,.int k' n'=>decide (k=k')&&eqI n n'
 |.str s,.str t=>e36 s t
 |.nilptr,.nilptr=>true
 |.nilslice,.nilslice=>true
 |.nilmap,.nilmap=>true
 |.nilfunc,.nilfunc=>true
 |.nilifc,.nilifc=>true
 |.iptr cs,.iptr ds=>eqL cs ds
 |.islice r c,.islice r' c'=>eqO c c'&&eqR r r'
 |.agg cs,.agg ds=>eqL cs ds
 |.tuple cs,.tuple ds=>eqL cs ds
 |.iset a,.iset b=>decide (a=b)
 |_,_=>false
def eqL:List AV→List AV→Bool
 | [],[]=>true
 |a::r,b::s=>eqV a b&&eqL r s
 |_,_=>false
def eqR:List (List AV)→List (List AV)→Bool
 | [],[]=>true
 |a::r,b::s=>eqL a b&&eqR r s
 |_,_=>false
end
mutual
theorem e5q:∀(a b:AV),eqV a b=true→a=b
 |.bool a,b,h=>by cases b<;>simp only[eqV]at h<;>first|(cases h;done)|(split at h<;>first|rfl|cases h)
 |.int k n,b,h=>by
  cases b<;>simp only[eqV]at h<;>first|(cases h;done)|skip
  simp only[e9l,f0l]at h;rw[h.1,e5s h.2]
 |.str s,b,h=>by cases b<;>simp only[eqV]at h<;>first|(cases h;done)|rw[d1g h]
 |.nilptr,b,h=>by cases b<;>simp only[eqV]at h<;>first|rfl|(cases h;done)
 |.nilslice,b,h=>by cases b<;>simp only[eqV]at h<;>first|rfl|(cases h;done)
 |.nilmap,b,h=>by cases b<;>simp only[eqV]at h<;>first|rfl|(cases h;done)
 |.nilfunc,b,h=>by cases b<;>simp only[eqV]at h<;>first|rfl|(cases h;done)
 |.nilifc,b,h=>by cases b<;>simp only[eqV]at h<;>first|rfl|(cases h;done)
 |.iptr cs,b,h=>by cases b<;>simp only[eqV]at h<;>first|(cases h;done)|rw[b6v _ _ h]
 |.islice r c,b,h=>by
  cases b<;>simp only[eqV]at h<;>first|(cases h;done)|skip
  simp only[e9l]at h;rw[e5r h.1,d87 _ _ h.2]
 |.agg cs,b,h=>by cases b<;>simp only[eqV]at h<;>first|(cases h;done)|rw[b6v _ _ h]
 |.tuple cs,b,h=>by cases b<;>simp only[eqV]at h<;>first|(cases h;done)|rw[b6v _ _ h]
 |.junk,b,h=>by simp[eqV]at h
 |.ptr ..,b,h=>by simp[eqV]at h
 |.slice ..,b,h=>by simp[eqV]at h
 |.map ..,b,h=>by simp[eqV]at h
 |.yfn ..,b,h=>by simp[eqV]at h
 |.imap ..,b,h=>by simp[eqV]at h
 |.iset a,b,h=>by cases b<;>simp only[eqV]at h<;>first|(cases h;done)|rw[of_decide_eq_true h]
 |.func ..,b,h=>by simp[eqV]at h
 |.iface ..,b,h=>by simp[eqV]at h
theorem b6v:∀(a b:List AV),eqL a b=true→a=b
 | [],b,h=>by cases b<;>simp[eqL]at h<;>rfl
 |x::r,b,h=>by
  cases b<;>simp only[eqL]at h
  ·cases h
  ·simp only[e9l]at h;rw[e5q _ _ h.1,b6v _ _ h.2]
theorem d87:∀(a b:List (List AV)),eqR a b=true→a=b
 | [],b,h=>by cases b<;>simp[eqR]at h<;>rfl
 |x::r,b,h=>by
  cases b<;>simp only[eqR]at h
  ·cases h
  ·simp only[e9l]at h;rw[b6v _ _ h.1,d87 _ _ h.2]
end
structure Fact where
 g:Nat
 args:List AV
 v:AV
def a0m(E:Env)(x:Fact):Prop:=
 ∀(I K:Nat→Prop) (ρ:PMap) (w:World) (ak:List Value),HRel E.G I K ρ (a01 []) w→NRel ρ 0→VRels I w ρ x.args ak→
  XOf E x.g ak w λen w'=>∃c I' ρ',en = .returned c∧Ret E I K ρ 0 w I' ρ' [] w'∧VRel I' w' ρ' x.v c
def e41:List Fact→FuncId→List AV→Option AV
 | [],_,_=>none
 |x::r,g,args=>bif Nat.beq x.g g&&eqL x.args args then some x.v else e41 r g args
def e9w(M:List Fact)(call:FuncId→List AV→a02→Option (AV×a02))(g:FuncId)(args:List AV)(H:a02):Option (AV×a02):=
 match H with
 | []=>match e41 M g args with
  |some v=>some (v,[])
  |none=>call g args []
 |b::r=>call g args (b::r)
theorem c8l{E:Env}{g:FuncId}{args:List AV}{v:AV}:∀{M:List Fact},(∀x∈M,a0m E x)→e41 M g args=some v→a0m E ⟨g,args,v⟩
 | [],_,h=>by simp[e41]at h
 |x::r,hM,h=>by
  simp only[e41,cond_eq_ite]at h;split at h
  ·rename_i hc;simp only[e9l,f7g]at hc;cases h;have:=hM x (by simp);obtain⟨g',a',v'⟩:=x;simp only at hc this;have h1:=hc.1;have h2:=b6v _ _ hc.2;subst h1;subst h2;exact this
  ·exact c8l (λx hx=>hM x (by simp[hx])) h
theorem e05{E:Env}{M:List Fact}(hM:∀x∈M,a0m E x){call:FuncId→List AV→a02→Option (AV×a02)}(ae:a35 E call):a35 E (e9w M call):=by
 intro g args H v H' ac;unfold e9w at ac;split at ac
 ·split at ac
  ·rename_i v' hs;cases ac;exact c8l hM hs
  ·exact ae g args [] v H' ac
 ·exact ae g args _ v H' ac
def c5z(E:Env)(f:FuncId)(args:List AV)(H:a02):Option (AV×a02):=match H with
 | []=>E.prim f args
 |_=>none
def b2v(E:Env)(call:FuncId→List AV→a02→Option (AV×a02))(lf:Nat)(f:FuncId)(args:List AV)(H:a02):Option (AV×a02):=
 match c5z E f args H with
 |some r=>some r
 |none=>match E.fn f with
 |none=>bif Nat.beq f yId then a70 E call lf args H else none
 |some i=>bif Nat.ble args.length i.ntmps then
  e8d E (E.zf f) H.length i.ntmps (E.keep f) call lf 0 i.code (a4n 0 args) H λe F' H'=>match e with
   |.exit _=>none
   |_=>match a18 E F' H' i.results with
    |some vs=>a10 (E.thaw f) H.length (a66 vs) H'
    |none=>none
  else none
def d4e(E:Env)(M:List Fact):Nat→FuncId→List AV→a02→Option (AV×a02)
 |0,_,_,_=>none
 |n+1,f,args,H=>e9w M (b2v E (d4e E M n) (n+1)) f args H
theorem b7p{E:Env}(ok:EnvOk E)(fR:DrOk E){call:FuncId→List AV→a02→Option (AV×a02)}(ae:a35 E call)(lf:Nat):a35 E (b2v E call lf):=by
 intro g args H v H' ac I K ρ w ak rel hn ha;unfold b2v at ac;split at ac
 ·rename_i r hp;cases ac;unfold c5z at hp;split at hp
  case h_2=>cases hp
  exact fR.prim g args v H' hp args [] v H' (by simpa using hp) I K ρ w ak rel hn ha
 split at ac
 ·rw[cond_eq_ite]at ac;split at ac
  case isFalse=>cases ac
  rename_i hg;have hg:=f4s hg;subst hg;exact c1z ok fR.rnd ae lf args H v H' ac I K ρ w ak rel hn ha
 rename_i i hi;rw[cond_eq_ite]at ac;split at ac
 case isFalse=>cases ac
 rename_i bd;refine e5h ok hi bd (k:=λe F' H'=>match e with
  |.exit _=>none
  |_=>match a18 E F' H' i.results with
   |some vs=>a10 (E.thaw g) H.length (a66 vs) H'
   |none=>none) (λx F1 H1 r h=>by cases x<;>exact h) ?_ rel hn ha
 intro e Q he hQ I ρ a w aj;unfold e8d at ac;cases hz:E.zf g with
 |true=>rw[hz,f2m]at ac;refine d67 (e:=e) (lf:=lf) ok ae i.code (fR.draws g i hi) (fR.code hi) hQ aj ?_;rw[he];exact ac
 |false=>rw[hz,f2z]at ac;refine b8l (e:=e) (ro:=none) (lf:=lf) ok ae i.code (fR.draws g i hi) (fR.code hi) hQ aj ?_;rw[he];exact ac
theorem c44{E:Env}(ok:EnvOk E)(fR:DrOk E){M:List Fact}(hM:∀x∈M,a0m E x):∀n,a35 E (d4e E M n)
 |0=>by intro g args H v H' ac;simp[d4e]at ac
 |n+1=>e05 hM (b7p ok fR (c44 ok fR hM n) (n+1))
theorem a16{E:Env}(ok:EnvOk E)(fR:DrOk E){M:List Fact}(hM:∀x∈M,a0m E x)(n:Nat){g:Nat}{args:List AV}{v:AV}(h:b2v E (d4e E M n) n g args []=some (v,[])) :
 a0m E ⟨g,args,v⟩:=b7p ok fR (c44 ok fR hM n) n g args [] v [] h
theorem b48{E:Env}:∀x∈([]:List Fact),a0m E x:=by simp
theorem a0y{E:Env}{x:Fact}{M:List Fact}(hx:a0m E x)(hM:∀x∈M,a0m E x):∀y∈x::M,a0m E y:=by
 intro y hy;simp only[f2s]at hy;rcases hy with rfl|hy
 ·exact hx
 ·exact hM y hy
end Go.Ax
