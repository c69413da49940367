/- AxSame: values and objects, compared. -/
import Derived.Test.YtmiegcjnimlbmaaGreatDoorAxA
import Derived.Lib.Bytealg
import Derived.RangeFuncRecord
import Derived.Scope
import Derived.LoopNIn
import Derived.Orders
import Derived.OrdersIn
set_option linter.unusedSimpArgs false
set_option linter.unusedVariables false
namespace Go.Ax
mutual
def b09:AV->AV->Bool
 |.junk,.junk=>true
 |.bool a,.bool b=>a==b
 |.int k a,.int k' b=>decide (k=k')&&decide (a=b)
 |.str a,.str b=>decide (a=b)
 |.nilptr,.nilptr=>true
 |.nilslice,.nilslice=>true
 |.nilmap,.nilmap=>true
 |.nilfunc,.nilfunc=>true
 |.nilifc,.nilifc=>true
 |.ptr a b c,.ptr d e f=>decide (a=d)&&(decide (b=e)&&decide (c=f))
 |.iptr a,.iptr b=>a8n a b
 |.slice a b c d,.slice e f g h=>decide (a=e)&&(decide (b=f)&&(decide (c=g)&&decide (d=h)))
 |.islice r c,.islice s d=>b8u r s&&decide (c=d)
 |.map a,.map b=>decide (a=b)
 |.imap a b c d,.imap e f g h=>a8n a e&&(a8n b f&&(decide (c=g)&&decide (d=h)))
 |.iset a,.iset b=>decide (a=b)
 |.yfn a,.yfn b=>decide (a=b)
 |.func f a b,.func g c d=>decide (f=g)&&(a8n a c&&a8n b d)
 |.iface t x,.iface u y=>decide (t=u)&&b09 x y
 |.agg a,.agg b=>a8n a b
 |.tuple a,.tuple b=>a8n a b
 |_,_=>false
def a8n:List AV->List AV->Bool
 | [],[]=>true
 |x::xs,y::ys=>b09 x y&&a8n xs ys
 |_,_=>false
def b8u:List (List AV)->List (List AV)->Bool
 | [],[]=>true
 |x::xs,y::ys=>a8n x y&&b8u xs ys
 |_,_=>false
end
mutual
theorem b8s:∀(a b:AV),b09 a b=true->a=b
 |a,b,h=>by
  cases a<;>cases b<;>simp only[b09,f1d,f2y,f7u,f6t]at h
  case junk.junk=>rfl
  case bool.bool=>rw[h]
  case int.int=>rw[h.1,h.2]
  case str.str=>rw[h]
  case nilptr.nilptr=>rfl
  case nilslice.nilslice=>rfl
  case nilmap.nilmap=>rfl
  case nilfunc.nilfunc=>rfl
  case nilifc.nilifc=>rfl
  case ptr.ptr=>rw[h.1,h.2.1,h.2.2]
  case iptr.iptr=>rw[a4s _ _ h]
  case slice.slice=>rw[h.1,h.2.1,h.2.2.1,h.2.2.2]
  case islice.islice=>rw[b8t _ _ h.1,h.2]
  case map.map=>rw[h]
  case imap.imap=>rw[a4s _ _ h.1,a4s _ _ h.2.1,h.2.2.1,h.2.2.2]
  case iset.iset=>rw[h]
  case yfn.yfn=>rw[h]
  case func.func=>rw[h.1,a4s _ _ h.2.1,a4s _ _ h.2.2]
  case iface.iface=>rw[h.1,b8s _ _ h.2]
  case agg.agg=>rw[a4s _ _ h]
  case tuple.tuple=>rw[a4s _ _ h]
theorem a4s:∀(a b:List AV),a8n a b=true->a=b
 | [],[],_=>rfl
 |x::xs,y::ys,h=>by simp only[a8n,f1d]at h;rw[b8s x y h.1,a4s xs ys h.2]
 | [],_::_,h=>by simp[a8n]at h
 |_::_,[],h=>by simp[a8n]at h
theorem b8t:∀(a b:List (List AV)),b8u a b=true->a=b
 | [],[],_=>rfl
 |x::xs,y::ys,h=>by simp only[b8u,f1d]at h;rw[a4s x y h.1,b8t xs ys h.2]
 | [],_::_,h=>by simp[b8u]at h
 |_::_,[],h=>by simp[b8u]at h
end
mutual
theorem b1l:∀(a:AV),b09 a a=true
 |.junk|.bool _|.int _ _|.str _|.nilptr|.nilslice|.nilmap|.nilfunc|.nilifc|.ptr _ _ _|.slice _ _ _ _|.map _|.yfn _=>by simp[b09]
 |.iptr a=>by simp only[b09];exact a3e a
 |.islice r c=>by simp only[b09,b1m r,f8k,f7h]
 |.imap a b c d=>by simp only[b09,a3e a,a3e b,f8k,f7h]
 |.iset a=>by simp only[b09,f8k]
 |.func f a b=>by simp only[b09,a3e a,a3e b,f8k,f7h]
 |.iface t x=>by simp only[b09,b1l x,f8k,f7h]
 |.agg a=>by simp only[b09];exact a3e a
 |.tuple a=>by simp only[b09];exact a3e a
theorem a3e:∀(a:List AV),a8n a a=true
 | []=>rfl
 |x::xs=>by simp only[a8n,b1l x,a3e xs,f7h]
theorem b1m:∀(a:List (List AV)),b8u a a=true
 | []=>rfl
 |x::xs=>by simp only[b8u,a3e x,b1m xs,f7h]
end
def b8w:List (Nat×AV)->List (Nat×AV)->Bool
 | [],[]=>true
 |(s,v)::F,(t,u)::G=>Nat.beq s t&&(b09 v u&&b8w F G)
 |_,_=>false
theorem b8v:∀{F G:List (Nat×AV)},b8w F G=true->F=G
 | [],[],_=>rfl
 |(s,v)::F,(t,u)::G,h=>by simp only[b8w,f1d,g0j]at h;rw[h.1,b8s _ _ h.2.1,b8v h.2.2]
 | [],_::_,h=>by simp[b8w]at h
 |_::_,[],h=>by simp[b8w]at h
theorem b6z:∀F:List (Nat×AV),b8w F F=true
 | []=>rfl
 |(s,v)::F=>by simp only[b8w,b1l,b6z F,Nat.beq_refl,f7h]
def b30:Option AObj->Option AObj->Bool
 |none,none=>true
 |some (.row k r),some (.row l s)=>decide (k=l)&&b8u r s
 |some (.map a b c d),some (.map e f g h)=>a8n a e&&(a8n b f&&(decide (c=g)&&decide (d=h)))
 |some (.siter s p),some (.siter t q)=>decide (s=t)&&decide (p=q)
 |some (.uset a),some (.uset b)=>decide (a=b)
 |some (.miter a b c),some (.miter d e f)=>decide (a=d)&&(decide (b=e)&&decide (c=f))
 |some (.yloop a b c),some (.yloop d e f)=>decide (a=d)&&(b8w b e&&decide (c=f))
 |_,_=>false
theorem c57(a b:Option AObj)(h:b30 a b=true):a=b:=by
 unfold b30 at h;split at h
 ·rfl
 ·simp only[f1d,f2y]at h;rw[h.1,b8t _ _ h.2]
 ·simp only[f1d,f2y]at h;rw[a4s _ _ h.1,a4s _ _ h.2.1,h.2.2.1,h.2.2.2]
 ·simp only[f1d,f2y]at h;rw[h.1,h.2]
 ·simp only[f2y]at h;rw[h]
 ·simp only[f1d,f2y]at h;rw[h.1,h.2.1,h.2.2]
 ·simp only[f1d,f2y]at h;rw[h.1,b8v h.2.1,h.2.2]
 ·cases h
@[go_sem] theorem e3y(a:Option AObj):b30 a a=true:=by
 cases a with
 |none=>rfl
 |some o=>cases o with
  |row k r=>simp only[b30,b1m,f8k,f7h]
  |map a b c d=>simp only[b30,a3e,f8k,f7h]
  |siter s p=>simp only[b30,f8k,f7h]
  |uset a=>simp only[b30,f8k]
  |miter a b c=>simp only[b30,f8k,f7h]
  |yloop a b c=>simp only[b30,b6z,f8k,f7h]
end Go.Ax
/- AxRun: the evaluator: operations in a row, statements, calls. Definitions only. -/
namespace Go.Ax
def a02(H:a03):FHeap:=λb=>(H[b]?).join
def b25(H:a03):Eff->a03
 |.none=>H
 |.new o=>H++[some o]
 |.set b o=>H.set b (some o)
 |.kill b o=>H.set b none++[some o]
/-! ### what a value refers to -/
mutual
def refs:AV->List Nat
 |.ptr b _ _=>[b]
 |.slice b _ _ _=>[b]
 |.map b=>[b]
 |.yfn b=>[b]
 |.func _ fs cs=>a0d fs++a0d cs
 |.iface _ x=>refs x
 |.agg cs=>a0d cs
 |.tuple cs=>a0d cs
 |.junk|.bool _|.int ..|.str _|.nilptr|.nilslice|.nilmap|.nilfunc|.nilifc|.iptr _|.islice ..|.imap ..|.iset _=>[]
def a0d:List AV->List Nat
 | []=>[]
 |v::vs=>refs v++a0d vs
end
def d63:List (Nat×AV)->List Nat
 | []=>[]
 |(_,v)::r=>refs v++d63 r
theorem d12{F:List (Nat×AV)}{x:Nat×AV}(hx:x∈F){c:Nat}(hc:c∈refs x.2):c∈d63 F:=by
 induction F with
 |nil=>cases hx
 |cons y F ih=>
  simp only[d63,f4s];rcases f4h.1 hx with rfl|hx
  ·exact .inl hc
  ·exact .inr (ih hx)
def a12:Option AObj->List Nat
 |some (.yloop _ F _)=>d63 F
 |some (.row _ aa)=>aa.flatMap a0d
 |some (.map ks vs _ _)=>a0d ks++a0d vs
 |_=>[]
def a18:List Nat->Nat->Bool
 | [],_=>false
 |a::r,x=>bif Nat.beq a x then true else a18 r x
theorem a2p{l:List Nat}{x:Nat}:a18 l x=true↔x∈l:=by
 induction l with
 |nil=>simp[a18]
 |cons a r ih=>
  simp only[a18,d4v,cond_eq_ite,f4h];by_cases h:a=x
  ·simp[h]
  ·simp only[f6o.2 h,f6t,f9d,ih];exact⟨.inr,λh'=>h'.resolve_left (λe=>h e.symm)⟩
def a24(H:a03):Nat->List Nat->List Nat->List Nat
 |0,_,aP=>aP.reverse
 |_+1,[],aP=>aP.reverse
 |n+1,b::todo,aP=>bif a18 aP b then a24 H n todo aP else a24 H n (a12 (a02 H b)++todo) (b::aP)
def a3o:Nat:=1000000
/-! ### renaming a heap -/
def a78(σ:List Nat):Nat->Option Nat:=λb=>σ.idxOf? b
def a4q(H:a03)(σ:List Nat)(π:Nat->Option Nat):a03:=σ.map λb=>(a02 H b).map (a0g π)
def a1d(σ:List Nat)(n:Nat):Nat->Option Nat:=λj=>bif Nat.blt j σ.length then σ[j]? else some (n+(j-σ.length))
def a1h(σ:List Nat)(n:Nat)(H1:a03):Nat->a03->a03
 |_,[]=>[]
 |b,o::r=>(match σ.idxOf? b with
  |some j=>(a02 H1 j).map (a0g (a1d σ n))
  |none=>o)::a1h σ n H1 (b+1) r
def a54:List Nat->Bool
 | []=>true
 |b::r=>!(a18 r b)&&a54 r
def a2v(run:List AV->a03->Option (AV×a03))(args:List AV)(H:a03):Option (AV×a03×List Nat):=
 let σ:=a24 H a3o (a0d args) []
 bif a54 σ&&σ.all (λb=>Nat.blt b H.length)then
  match run (args.map (ren (a78 σ))) (a4q H σ (a78 σ))with
  |some (v,H1)=>some (ren (a1d σ H.length) v,a1h σ H.length H1 0 H++(H1.drop σ.length).map (Option.map (a0g (a1d σ H.length))),σ)
  |none=>none
 else none
/-! ### lent calls -/
mutual
def noI:AV->Bool
 |.iptr _=>false
 |.islice _ _=>false
 |.imap _ _ _ _=>false
 |.iset _=>false
 |.func _ fs cs=>c1e fs&&c1e cs
 |.iface _ x=>noI x
 |.agg cs=>c1e cs
 |.tuple cs=>c1e cs
 |.junk|.bool _|.int ..|.str _|.nilptr|.nilslice|.nilmap|.nilfunc|.nilifc|.ptr _ _ _|.slice _ _ _ _|.map _|.yfn _=>true
def c1e:List AV->Bool
 | []=>true
 |v::vs=>noI v&&c1e vs
end
def e49:AObj->Bool
 |.row _ aa=>aa.all c1e
 |.map ks vs _ _=>c1e ks&&c1e vs
 |.siter _ _=>true
 |.uset _=>true
 |_=>false
def a6x(H:a03):FHeap:=λb=>match a02 H b with
 |some o=>bif e49 o then some o else none
 |none=>none
def a8t(run:List AV->a03->Option (AV×a03))(args:List AV)(H:a03):Option (AV×a03×List Nat):=
 match a5r 0 false (a3k (a02 H) 0 12) args with
 |some au=>match run au []with
  |some (v,H1)=>bif noI v then match a36 0 false (a3k (a6x H1) 0 12) v with
   |some v'=>some (v',H,List.range H.length)
   |none=>none
   else none
  |none=>none
 |none=>none
def f3r(args:List AV):Option AV:=
 match args with
 | [.str s,.int .u8 c]=>some (.int .i64 (Lib.indexByte s c.toNat.toUInt8))
 |_=>none
def a20(E:Env)(ah:Bool)(call:FuncId->List AV->a03->Option (AV×a03))(f:AV)(args:List AV)(H:a03):Option (AV×a03×List Nat):=
 match f with
 |.func (.func g) fs cs=>bif E.ext g then(bif (E.fn g).isSome then a8t (call g) (fs++args++cs) H else match f3r (fs++args++cs)with
  |some v=>some (v,H,[])
  |none=>none)
  else bif (E.fn g).isSome then
   match a2v (call g) (fs++args++cs) H with
   |some (v,H',σ)=>bif ah && !(Nat.ble H.length H'.length)then none else some (v,H',σ)
   |none=>none
  else none
 |.yfn b=>match a2v (call yId) (.yfn b::args) H with
  |some (v,H',σ)=>bif ah && !(Nat.ble H.length H'.length)then none else some (v,H',σ)
  |none=>none
 |_=>none
/-! ### operations in a row -/
structure LogE where
 needs:List Nat
 keys:List Nat
def Eff.keys(n:Nat):Eff->List Nat
 |.none=>[]
 |.new _=>[n]
 |.set b _=>[b]
 |.kill b _=>[b,n]
def Eff.fits(n:Nat):Eff->Bool
 |.set b _=>Nat.blt b n
 |.kill b _=>Nat.blt b n
 |_=>true
def a0l:AV->List Nat
 |.ptr b _ _=>[b]
 |.slice b _ _ _=>[b]
 |.map b=>[b]
 |_=>[]
def a98(op:Op)(v:Operand->AV):List Nat:=
 match op with
 |.load _ a=>a0l (v a)
 |.store _ a _=>a0l (v a)
 |.convert _ _ x=>a0l (v x)
 |.slice _ x _ _ _=>a0l (v x)
 |.indexAddr _ x _=>a0l (v x)
 |.lookup _ m _ _=>a0l (v m)
 |.mapUpdate _ m _ _=>a0l (v m)
 |.insert _ m _ _=>a0l (v m)
 |.mapEntry _ m _=>a0l (v m)
 |.entryStore _ m _ _=>a0l (v m)
 |.next it _=>a0l (v it)
 |.entry it=>a0l (v it)
 |.call { callee:=.builtin _,args,.. }=>args.toList.flatMap λx=>a0l (v x)
 |_=>[]
def a75(E:Env)(f:AV)(H H':a03)(σ:List Nat):Bool:=match f with
 |.func (.func g) _ _=>E.ro g&&σ.all λb=>b30 (a02 H b) (a02 H' b)
 |_=>false
def b6d(ro:Bool)(σ:List Nat)(n n':Nat):List Nat:=bif Nat.beq n' n then(bif ro then[]else σ)else σ++List.range' n (n'-n)
def a10(E:Env)(ah:Bool)(call:FuncId->List AV->a03->Option (AV×a03))(F:Frm)(H:a03)(op:Op):Option (AV×a03×LogE):=
 match op with
 |.call { callee:=.value f,args,.. }=>match a20 E ah call (opv E F f) (args.toList.map (opv E F)) H with
  |some (v,H',σ)=>some (v,H',⟨σ,b6d (a75 E (opv E F f) H H' σ) σ H.length H'.length⟩)
  |none=>none
 |op=>match aop E H.length (a02 H) op (opv E F)with
  |some (v,e)=>bif e.fits H.length then some (v,b25 H e,⟨a98 op (opv E F),e.keys H.length⟩)else none
  |none=>none
def a7f(N:Nat):Option Tmp->Bool
 |none=>true
 |some d=>Nat.blt d N
def c1k(a b:List Nat):Bool:=a.any λx=>a18 b x
def LogE.clash(x y:LogE):Bool:=c1k x.keys y.needs||c1k x.keys y.keys||c1k x.needs y.keys
def b0x(all:List Oper)(i:Nat):Nat->Nat->Bool
 |0,_=>false
 |n+1,j=>match all[j]? with
  |some o=>o.after.toList.any λe=>Region.binds .any e&&(e.on==i||b0x all i n e.on)
  |none=>false
def d9l(all:List Oper)(i j:Nat):Bool:=
 match all[j]? with
 |some o=>o.after.toList.any λe=>Region.binds .any e&&e.on==i
 |none=>false
def a6k(all:List Oper)(i j:Nat):Bool:=d9l all i j||b0x all i all.length j
def logOk.logRow (all:List Oper) (j:Nat) (y:LogE):Nat->List LogE->Bool
 |_,[]=>true
 |0,_::_=>false
 |i+1,x::al=>(!(x.clash y)||a6k all i j)&&logOk.logRow all j y i al
def logOk(all:List Oper):Nat->List LogE->Bool
 |_,[]=>true
 |0,_::_=>false
 |j+1,y::al=>logOk.logRow all j y j al&&logOk all j al

def a3d(all:List Oper)(j:Nat):Option Nat:=(all[j]?).bind (·.dst)
def a2w(E:Env)(ah:Bool)(N:Nat)(call:FuncId->List AV->a03->Option (AV×a03))(all:List Oper){R:Type} :
 List Oper->List LogE->Frm->a03->(Frm->a03->Option R)->Option R
 | [],log,F,H,k=>bif !ah||logOk all log.length log then k F H else none
 |o::al,log,F,H,k=>
  bif a7f N o.dst then
   match o.guard with
   |none=>match a10 E ah call F H o.op with
    |some (v,H',l)=>a2w E ah N call all al (l::log) (a42 F o.dst v) H' k
    |none=>none
   |some (j,bt)=>match a3d all j with
    |none=>none
    |some d=>match a35 F d with
     |.bool b=>bif b then
      (bif bt then match a10 E ah call (a42 F (some d) (.bool true)) H o.op with
       |some (v,H',l)=>a2w E ah N call all al (l::log) (a42 (a42 F (some d) (.bool true)) o.dst v) H' k
       |none=>none
      else a2w E ah N call all al (⟨[],[]⟩::log) (a42 (a42 F (some d) (.bool true)) o.dst (.tuple [])) H k)
      else
       (bif bt then a2w E ah N call all al (⟨[],[]⟩::log) (a42 (a42 F (some d) (.bool false)) o.dst (.tuple [])) H k
       else match a10 E ah call (a42 F (some d) (.bool false)) H o.op with
        |some (v,H',l)=>a2w E ah N call all al (l::log) (a42 (a42 F (some d) (.bool false)) o.dst v) H' k
        |none=>none)
     |.tuple []=>a2w E ah N call all al (⟨[],[]⟩::log) (a42 F o.dst (.tuple [])) H k
     |_=>none
  else none
/-! ### statements -/
inductive AExit where
 |normal
 |exit (id:Nat)
 |ret
def a2c(keep:List Nat)(F:Frm):Frm:=keep.map λs=>(s,a35 F s)
def a9s(m0:Nat)(F:Frm)(H:a03):List Nat:=(a24 H a3o ((H.take m0).flatMap a12++a0d (F.map (·.2))) []).filter λb=>Nat.ble m0 b
def b6g(m0:Nat)(σ:List Nat):Nat->Option Nat:=λb=>bif Nat.blt b m0 then some b else(σ.idxOf? b).map (m0 + ·)
def c0h(π:Nat->Option Nat)(F:Frm):Frm:=F.map λx=>(x.1,ren π x.2)
def gcH(m0:Nat)(σ:List Nat)(H:a03):a03:=(H.take m0).map (Option.map (a0g (b6g m0 σ)))++a4q H σ (b6g m0 σ)
def b32(m0:Nat)(keep:List Nat){R:Type}(body:Frm->a03->(AExit->Frm->a03->Option R)->Option R):Nat->Frm->a03->(AExit->Frm->a03->Option R)->Option R
 |0,_,_,_=>none
 |n+1,F,H,k=>
  let F1:=a2c keep F
  let σ:=a9s m0 F1 H
  bif a54 σ&&σ.all (λb=>Nat.ble m0 b)&&Nat.ble m0 H.length then
   body (c0h (b6g m0 σ) F1) (gcH m0 σ H) λe F' H'=>match e with
    |.normal=>b32 m0 keep body n F' H' k
    |e=>k e F' H'
  else none
/-! ### ranging over a set -/
def gcD(m0:Nat)(keep:List Nat)(F:Frm)(H:a03):Option (Frm×a03):=
 let F1:=a2c keep F
 let σ:=a9s m0 F1 H
 bif a54 σ&&σ.all (λb=>Nat.ble m0 b)&&Nat.ble m0 H.length then some (c0h (b6g m0 σ) F1,gcH m0 σ H)else none
def d6d:List Oper->Option (Nat×Nat×List Oper)
 | []=>none
 |o::al=>match o.op,o.dst,o.guard with
  |.next (.tmp it) false,some nx,none=>some (it,nx,al)
  |_,_,_=>none
def a84:Code->Option Nat
 |.seq (.region _ ap false) _=>(d6d ap.toList).map (·.1)
 |_=>none
def d6h(F:Frm)(H:a03)(it:Nat):Option (AV×a03):=match a35 F it with
 |.ptr b 0 0=>match a02 H b with
  |some (.miter ks dC (some (some i)))=>some (.tuple [.bool true,.int .i64 i,.bool true],H.set b (some (.miter ks (dC++[i]) none)))
  |some (.miter ks dC (some none))=>some (.tuple [.bool false],H.set b (some (.miter ks dC none)))
  |_=>none
 |_=>none
abbrev R3:=AExit×Frm×a03
def f7z(ks aP:List Int)(a:Option Int)(F:Frm)(H:a03)(it:Nat):Option a03:=match a35 F it with
 |.ptr b 0 0=>match a02 H b with
  |some (.miter ld dC _)=>bif decide (ld=ks)&&decide (dC=aP)then some (H.set b (some (.miter ks dC (some a))))else none
  |_=>none
 |_=>none
def dropIt(F:Frm)(H:a03)(it:Nat):a03:=match a35 F it with
 |.ptr b _ _=>H.set b none
 |_=>H
def b2i(m0 it:Nat)(keep:List Nat)(ks aP:List Int)(body:Frm->a03->(AExit->Frm->a03->Option R3)->Option R3)(a:Option Int)(F:Frm)(H:a03):Option R3:=
 match gcD m0 keep F H with
 |some (F1,H1)=>match f7z ks aP a F1 H1 it with
  |some H2=>body F1 H2 λe F' H'=>some (e,F',H')
  |none=>none
 |none=>none
def a5y(m0 it:Nat)(keep:List Nat)(ks:List Int)(body:Frm->a03->(AExit->Frm->a03->Option R3)->Option R3):List Int->List Int->Frm->a03->Option R3
 |aP,[],F,H=>match b2i m0 it keep ks aP body none F H with
  |some (.normal,_,_)=>none
  |some (e,F',H')=>some (e,F',dropIt F' H' it)
  |none=>none
 |aP,i::o,F,H=>match b2i m0 it keep ks aP body (some i) F H with
  |some (.normal,F',H')=>a5y m0 it keep ks body (aP++[i]) o F' H'
  |_=>none
def f0u(m0 it:Nat)(keep:List Nat)(F:Frm)(H:a03):Option (List Int):=match gcD m0 keep F H with
 |some (F1,H1)=>match a35 F1 it with
  |.ptr b 0 0=>match a02 H1 b with
   |some (.miter ks [] _)=>some ks
   |_=>none
  |_=>none
 |none=>none
def c8k(x:Int):List Int->List (List Int)
 | []=>[[x]]
 |y::l=>(x::y::l)::(c8k x l).map (y :: ·)
def b7b:List Int->List (List Int)
 | []=>[[]]
 |x::l=>(b7b l).flatMap (c8k x)
def e5o:AExit->AExit->Bool
 |.normal,.normal=>true
 |.ret,.ret=>true
 |.exit a,.exit b=>Nat.beq a b
 |_,_=>false
def c7n:a03->a03->Bool
 | [],[]=>true
 |a::H,b::J=>b30 a b&&c7n H J
 |_,_=>false
def e0n(x:Option R3)(r:R3):Bool:=match x with
 |some (e,F,H)=>e5o e r.1&&(b8w F r.2.1&&c7n H r.2.2)
 |none=>false
def c89(m0 it:Nat)(keep:List Nat){R:Type}(body:Frm->a03->(AExit->Frm->a03->Option R3)->Option R3)(F:Frm)(H:a03)(k:AExit->Frm->a03->Option R):Option R:=
 match f0u m0 it keep F H with
 |some ks=>match(b7b ks).map λo=>a5y m0 it keep ks body [] o F H with
  |some r::rs=>bif rs.all (λx=>e0n x r)then k r.1 r.2.1 r.2.2 else none
  |_=>none
 |none=>none
def d4w(keep:List Nat):Bool:=keep.any λs=>Nat.ble 1000000 s&&Nat.blt s 1001000
def c9p:List Nat->Nat
 | []=>0
 |s::r=>bif Nat.ble 1000000 s&&Nat.blt s 1001000 then s-1000000 else c9p r
def d7d(m:Nat)(H:a03)(v:AV):AV:=match a36 m true (a3k (a02 H) m 12) v with
 |some v'=>v'
 |none=>.junk
def b9p(m:Nat)(H:a03)(F:Frm):Frm:=F.map λx=>(x.1,d7d m H x.2)
def b0q(m:Nat)(H:a03):a03:=(H.take m).map (Option.map (a90 m (a3k (a02 H) m 12)))
def yOf:List Nat->Option Nat
 | []=>none
 |s::r=>bif Nat.ble 3000000 s then some (s-3000000)else yOf r
def rfs(N f:Nat):Nat->Code->List (Nat×RInfo)
 |cur,.rangeFunc _ ps asg body=>[(cur,⟨N,ps.toList,asg,body,f⟩)]
 |cur,.seq a b=>rfs N f cur a++rfs N f cur b
 |cur,.cond _ a b=>rfs N f cur a++rfs N f cur b
 |_,.block id b=>rfs N f id b
 |cur,.loop b=>rfs N f cur b
 |cur,.scope b=>rfs N f cur b
 |_,_=>[]
def b4v(cur:Nat):List (Nat×RInfo)->Option RInfo
 | []=>none
 |(c,ri)::r=>bif Nat.beq c cur then some ri else b4v cur r
theorem a6t{N f:Nat}:∀(c:Code) (cur:Nat),b68 c=true->rfs N f cur c=[]
 |.rangeFunc _ _ _ _,cur,h=>by simp[b68]at h
 |.seq a b,cur,h=>by simp only[b68,f1d]at h;simp[rfs,a6t a cur h.1,a6t b cur h.2]
 |.cond _ a b,cur,h=>by simp only[b68,f1d]at h;simp[rfs,a6t a cur h.1,a6t b cur h.2]
 |.block id b,cur,h=>by simp only[rfs];exact a6t b id h
 |.loop b,cur,h=>by simp only[rfs];exact a6t b cur h
 |.scope b,cur,h=>by simp only[rfs];exact a6t b cur h
 |.skip,_,_=>rfl
 |.label _,_,_=>rfl
 |.region _ _ _,_,_=>rfl
 |.exit _,_,_=>rfl
 |.ret,_,_=>rfl
 |.goto _,_,_=>rfl
 |.refuse _,_,_=>rfl
def RFOk(E:Env)(f N:Nat)(keep:Nat->List Nat)(ro:Option Nat)(cur:Nat)(c:Code):Prop:=(ro.isSome=true->b68 c=true)∧∀x∈rfs N f cur c,∃y,yOf (keep x.1)=some y∧E.G.rnd y=some x.2
section
variable {E:Env}{f N:Nat}{keep:Nat->List Nat}{ro:Option Nat}{cur:Nat}{a b:Code}
theorem RFOk.seq1(h:RFOk E f N keep ro cur (.seq a b)):RFOk E f N keep ro cur a:=⟨λhr=>by have:=h.1 hr;simp only[b68,f1d]at this;exact this.1,λx hx=>h.2 x (by simp[rfs,hx])⟩
theorem RFOk.seq2(h:RFOk E f N keep ro cur (.seq a b)):RFOk E f N keep ro cur b:=⟨λhr=>by have:=h.1 hr;simp only[b68,f1d]at this;exact this.2,λx hx=>h.2 x (by simp[rfs,hx])⟩
theorem RFOk.cond1{c:Operand}(h:RFOk E f N keep ro cur (.cond c a b)):RFOk E f N keep ro cur a:=⟨λhr=>by have:=h.1 hr;simp only[b68,f1d]at this;exact this.1,λx hx=>h.2 x (by simp[rfs,hx])⟩
theorem RFOk.cond2{c:Operand}(h:RFOk E f N keep ro cur (.cond c a b)):RFOk E f N keep ro cur b:=⟨λhr=>by have:=h.1 hr;simp only[b68,f1d]at this;exact this.2,λx hx=>h.2 x (by simp[rfs,hx])⟩
theorem RFOk.block{id:Nat}(h:RFOk E f N keep ro cur (.block id b)):RFOk E f N keep ro id b:=⟨h.1,h.2⟩
theorem RFOk.loop(h:RFOk E f N keep ro cur (.loop b)):RFOk E f N keep ro cur b:=⟨h.1,h.2⟩
theorem RFOk.scope(h:RFOk E f N keep ro cur (.scope b)):RFOk E f N keep ro cur b:=⟨h.1,h.2⟩
end
def e00(H:a03)(b:Nat)(old new:YSt):Option a03:=match a02 H b with
 |some (.yloop y F st)=>bif decide (st=old)then some (H.set b (some (.yloop y F new)))else none
 |_=>none
def e86(H:a03)(b:Nat):Option YSt:=match a02 H b with
 |some (.yloop _ _ st)=>some st
 |_=>none
def a4a(E:Env)(m0 N:Nat)(keep:Nat->List Nat)(call:FuncId->List AV->a03->Option (AV×a03))(lf:Nat) :
 Nat->Code->{R:Type}->Frm->a03->(AExit->Frm->a03->Option R)->Option R
 |_,.skip,_,F,H,k=>k .normal F H
 |_,.label _,_,F,H,k=>k .normal F H
 |_,.region _ ap ah,_,F,H,k=>match d6d ap.toList with
  |none=>a2w E ah N call ap.toList ap.toList [] F H λF' H'=>k .normal F' H'
  |some (it,nx,al)=>bif ah || !Nat.blt nx N then none else match d6h F H it with
   |some (v,H')=>a2w E false N call ap.toList al [⟨[],[]⟩] (a42 F (some nx) v) H' λF' H'=>k .normal F' H'
   |none=>none
 |cur,.seq a b,_,F,H,k=>a4a E m0 N keep call lf cur a F H λe F' H'=>match e with
  |.normal=>a4a E m0 N keep call lf cur b F' H' k
  |e=>k e F' H'
 |cur,.cond c x y,_,F,H,k=>match opv E F c with
  |.bool t=>bif t then a4a E m0 N keep call lf cur x F H k else a4a E m0 N keep call lf cur y F H k
  |_=>none
 |_,.block id b,_,F,H,k=>a4a E m0 N keep call lf id b F H λe F' H'=>match e with
  |.exit id'=>bif id'==id then k .normal F' H' else k (.exit id') F' H'
  |e=>k e F' H'
 |cur,.loop b,_,F,H,k=>match a84 b with
  |none=>b32 m0 (keep cur) (λF H k=>a4a E m0 N keep call lf cur b F H k) lf F H λe F' H'=>bif d4w (keep cur)then k e (b9p (m0+c9p (keep cur)) H' F') (b0q (m0+c9p (keep cur)) H')else k e F' H'
  |some it=>c89 m0 it (keep cur) (λF H k=>a4a E m0 N keep call lf cur b F H k) F H k
 |cur,.rangeFunc f _ _ _,_,F,H,k=>match opv E F f,yOf (keep cur)with
  |.func (.func g) fs cs,some y=>bif (E.fn g).isSome && !(E.ext g)then
   match a2v (call g) (fs++[.yfn H.length]++cs) (H++[some (.yloop y (a2c (keep cur) F) .ready)])with
   |some (_,H2,_)=>match e86 H2 H.length with
    |some .ready=>k .normal F (H2.set H.length none)
    |some (.done none)=>k .ret F (H2.set H.length none)
    |some (.done (some id))=>k (.exit id) F (H2.set H.length none)
    |_=>none
   |none=>none
   else none
  |_,_=>none
 |cur,.scope b,_,F,H,k=>a4a E m0 N keep call lf cur b F H k
 |_,.exit id,_,F,H,k=>k (.exit id) F H
 |_,.ret,_,F,H,k=>k .ret F H
 |_,_,_,_,_,_=>none
/-! ### functions -/
def a1c(E:Env)(F:Frm)(H:a03):List ResultVar->Option (List AV)
 | []=>some []
 |.tmp t::r=>match a1c E F H r with
  |some vs=>some (a35 F t::vs)
  |none=>none
 |.cell a t::r=>match a6q E (a02 H) t (a35 F a),a1c E F H r with
  |some v,some vs=>some (v::vs)
  |_,_=>none
def a6l:List AV->AV
 | [v]=>v
 |vs=>.tuple vs
def a3t:Nat->List AV->Frm
 |_,[]=>[]
 |i,v::vs=>(i,v)::a3t (i+1) vs
def a4f(h:FHeap)(b:Nat):FHeap:=λx=>bif Nat.beq x b then none else h x
def e1n(m:Nat)(v:AV)(H:a03):Option (AV×a03):=match v with
 |.ptr b i o=>bif Nat.ble m b then(match a02 H b with
  |some (.row k aa)=>match frzT m (a3k (a4f (a02 H) b) m 12) aa with
   |some bm=>some (.ptr m i o,(H.take m).map (Option.map (a0g (a1p m)))++[some (.row k bm)])
   |none=>none
  |_=>none)else none
 |.slice b off len cap=>some (.slice b off len cap,H)
 |.agg cs=>some (.agg cs,H)
 |.tuple cs=>some (.tuple cs,H)
 |.map b=>some (.map b,H)
 |.func f fs cs=>some (.func f fs cs,H)
 |.nilslice=>some (.nilslice,(H.take m).map (Option.map (a0g (a1p m))))
 |_=>none
def a22(thaw:Bool)(m:Nat)(v:AV)(H:a03):Option (AV×a03):=
 bif thaw then(bif Nat.beq m 0 then e1n m v H else some (v,H))else match a36 m true (a3k (a02 H) m 12) v with
  |some v'=>some (v',(H.take m).map (Option.map (a0g (a1p m))))
  |none=>some (v,H)
def c9q(E:Env)(g:FuncId)(m:Nat)(v:AV)(H:a03):Option (AV×a03):=bif E.raw g then some (v,H)else a22 (E.thaw g) m v H
def c3k:Frm->List Nat->List AV->Frm
 |F,t::ts,v::vs=>c3k (a42 F (some t) v) ts vs
 |F,_,_=>F
def a9e(E:Env)(call:FuncId->List AV->a03->Option (AV×a03))(lf:Nat)(args:List AV)(H:a03):Option (AV×a03):=match args with
 |.yfn b::vs=>match a02 H b with
  |some (.yloop y F .ready)=>match E.G.rnd y with
   |some ri=>bif Nat.beq vs.length ri.ps.length&&ri.ps.all (Nat.blt · ri.N)then
    a4a E H.length ri.N (E.keep ri.fid) call lf 0 ri.asg (c3k F ri.ps vs) H λe F' H'=>match e with
     |.normal=>match e00 H' b .ready .busy with
      |some H1=>a4a E H.length ri.N (E.keep ri.fid) call lf 0 ri.body F' H1 λe _ H2=>match e with
       |.normal=>(e00 H2 b .busy .ready).map (.bool true,·)
       |.ret=>(e00 H2 b .busy (.done none)).map (.bool false,·)
       |.exit id=>(e00 H2 b .busy (.done (some id))).map (.bool false,·)
      |none=>none
     |_=>none
    else none
   |none=>none
  |_=>none
 |_=>none
end Go.Ax
/- AxNow: what e6r at a4m point of a function's run, against its entry. -/
namespace Go.Ax
structure Entry where
 I:Nat->Prop
 K:Nat->Prop
 ρ:PMap
 m:Nat
 w:World
def Marks(e:Entry)(I:Nat->Prop)(w:World)(ds:List Deferred):Prop:=∃rs:List Nat,ds=rs.map (λr=>(⟨.collected r,#[]⟩:Deferred))∧rs.Nodup∧∀r∈rs,I r∧e.w.heap.size<=r∧w.heap[r]?=some (.deferred (some []))
theorem Marks.nil{e:Entry}{I:Nat->Prop}{w:World}:Marks e I w []:=⟨[],rfl,List.nodup_nil,λ_ h=>(by cases h)⟩
theorem Marks.mono{e:Entry}{I I':Nat->Prop}{w w':World}{ds:List Deferred}(h:Marks e I w ds)(hI:∀c,I c->I' c)(hw:∀c,I c->w'.heap[c]?=w.heap[c]?):Marks e I' w' ds:=by obtain⟨rs,h1,h2,h3⟩:=h;exact⟨rs,h1,h2,λr hr=>⟨hI r (h3 r hr).1,(h3 r hr).2.1,by rw[hw r (h3 r hr).1];exact(h3 r hr).2.2⟩⟩
theorem a3f{a:Act}{d:Option Nat}{c:Value}:(a.put d c).defers=a.defers:=by cases d<;>rfl
def NRel(ρ:PMap)(n:Nat):Prop:=∀b,n<=b->ρ b=none
structure Now(E:Env)(e:Entry)(N:Nat)(F:Frm)(H:a03)(I:Nat->Prop)(ρ:PMap)(a:Act)(w:World):Prop where
 imm:∀c,e.I c->I c
 map:∀b,b<e.m->ρ b=e.ρ b
 ext:Ext e.I e.K e.w w
 rel:HRel E.G I e.K ρ (a02 H) w
 nrel:NRel ρ H.length
 frm:FRel I w ρ N F a.tmps
 low:e.m<=H.length
 marks:Marks e I w a.defers
section
variable {E:Env}
theorem b8j(H:a03):a02 H H.length=none:=by simp[a02]
theorem c6d(H:a03)(e:Eff):∀b o,a02 (b25 H e) b=some o->((a02 H).eff H.length e) b=some o:=by
 intro b o hb;cases e with
 |none=>exact hb
 |new o1=>
  simp only[b25,a02,FHeap.eff,FHeap.set]at hb⊢;by_cases h:b=H.length
  ·subst h;simp at hb;simp[hb]
  ·rw[f2m h];rcases f6u b H.length with h1|h1
   ·rwa [f2l h1]at hb
   ·rw[f2s (by simp;omega)]at hb;simp at hb
 |set b1 o1=>
  simp only[b25,a02,FHeap.eff,FHeap.set]at hb⊢;rw[f3a]at hb;by_cases h:b=b1
  ·subst h;rw[f2w rfl]at hb⊢;split at hb
   ·simpa using hb
   ·simp at hb
  ·rw[f2m (λe=>h e.symm)]at hb;rw[f2m h];exact hb
 |kill b1 o1=>
  simp only[b25,a02,FHeap.eff,FHeap.set]at hb⊢;by_cases h:b=H.length
  ·subst h;rw[f2r (by simp)]at hb;simp at hb;simp[hb]
  ·rw[f2m h];rcases f6u b H.length with h1|h1
   ·rw[f2l (by simpa using h1),f3a]at hb;by_cases h2:b=b1
    ·subst h2;rw[f2w rfl]at hb;split at hb<;>simp at hb
    ·rw[f2m (λe=>h2 e.symm)]at hb;rw[f2m h2];exact hb
   ·rw[f2s (by simp;omega)]at hb;simp at hb
theorem b0j(H:a03)(e:Eff):(b25 H e).length=if e.fresh then H.length+1 else H.length:=by cases e<;>simp[b25,Eff.fresh]
theorem NRel.moves{ρ ρ':PMap}{H:a03}{e:Eff}(hn:NRel ρ H.length)(hm:Moves ρ ρ' H.length e):NRel ρ' (b25 H e).length:=by
 intro b hb;rw[b0j]at hb;cases hf:e.fresh with
 |false=>rw[hf]at hb;rw[hm.2 hf];exact hn b (by simpa using hb)
 |true=>
  rw[hf]at hb;have hb:H.length+1<=b:=by simpa using hb
  rw[hm.1 b (by omega)];exact hn b (by omega)
theorem Now.op(ok:EnvOk E){e:Entry}{N:Nat}{F:Frm}{H:a03}{I:Nat->Prop}{ρ:PMap}{a:Act}{w:World}(h:Now E e N F H I ρ a w){o:Oper}{v:AV}{eff:Eff}
 (ha:aop E H.length (a02 H) o.op (opv E F)=some (v,eff))(hd:a7f N o.dst=true) :
 ∃x w' c ρ',(execOp a.eval o).run E.P w = .ok x w'∧(x = .value c∨(x = .skip∧c=undef))∧Now E e N (a42 F o.dst v) (b25 H eff) I ρ' (a.put o.dst c) w':=by
 obtain⟨x,w',c,ρ',ae,hx,step,hv,hm⟩:=d9s ok h.rel (b8j H) (h.nrel _ (f2q _)) ha (b4j h.rel h.frm);refine⟨x,w',c,ρ',ae,hx,?_⟩;have jy:∀s,o.dst=some s->s<N:=by intro s hs;rw[hs]at hd;simpa[a7f,f4o]using hd
 refine⟨h.imm,λb hb=>?_,h.ext.trans h.imm step.ext,step.rel.fewer (c6d H eff),h.nrel.moves hm,?_,?_,?_⟩
 ·rw[hm.1 b (by have:=h.low;omega)];exact h.map b hb
 ·exact(FRel.mono h.frm (λv c hv=>step.vrel hv)).set jy hv
 ·rw[b0j];have:=h.low;split<;>omega
 ·rw[a3f];exact h.marks.mono (λ_ h=>h) (λc hc=>step.ext.keep c (.inl hc))
theorem Now.refine{e:Entry}{N:Nat}{F:Frm}{H:a03}{I:Nat->Prop}{ρ:PMap}{a:Act}{w:World}(h:Now E e N F H I ρ a w){d:Nat}{v:AV}(hv:VRel I w ρ v (a.tmps.getD d undef)) :
 Now E e N (a42 F (some d) v) H I ρ a w:=
 { h with frm:=⟨h.frm.1,λs=>by
  rw[a8v];split
  ·rename_i hs;subst hs;exact hv
  ·exact h.frm.2 s⟩ }
theorem Now.skip{e:Entry}{N:Nat}{F:Frm}{H:a03}{I:Nat->Prop}{ρ:PMap}{a:Act}{w:World}(h:Now E e N F H I ρ a w){o:Oper}(hd:a7f N o.dst=true) :
 Now E e N (a42 F o.dst (.tuple [])) H I ρ (a.put o.dst undef) w:=
 { h with
  frm:=h.frm.set (by intro s hs;rw[hs]at hd;simpa[a7f,f4o]using hd) (by simp only[VRel,undef];exact⟨#[],rfl,by simp[VRels]⟩)
  marks:=by rw[a3f];exact h.marks }
end
end Go.Ax
/- AxCall: a call on the blocks that its arguments a24, and back. -/
namespace Go.Ax
structure Ret(E:Env)(I K:Nat->Prop)(ρ:PMap)(m:Nat)(w:World)(I':Nat->Prop)(ρ':PMap)(H':a03)(w':World):Prop where
 imm:∀c,I c->I' c
 map:∀b,b<m->ρ' b=ρ b
 ext:Ext I K w w'
 rel:HRel E.G I' K ρ' (a02 H') w'
 nrel:NRel ρ' H'.length
 low:m<=H'.length
abbrev f8c:=List Value->World->(Ending->World->Prop)->Prop
def XR(E:Env):f8c:=λan w R=>∃l vs fn tmps asg body,an = .func (.yield l) #[] #[]::vs∧(Instr.yield l vs.toArray).run E.P w = .ok (.round l fn tmps asg body) w∧RoundIn Fence.wide 0 E.P l fn tmps asg body w R
def XOf(E:Env)(g:FuncId):f8c:=if g=yId then XR E else λan w R=>Calls E.P g an.toArray w R
theorem XOf.mono{E:Env}{g:FuncId}{an:List Value}{w:World}{R R':Ending->World->Prop}(h:XOf E g an w R)(hr:∀e w',R e w'->R' e w'):XOf E g an w R':=by
 unfold XOf at h⊢;split at h
 ·rename_i hg;rw[f2w hg];obtain⟨l,vs,fn,tmps,asg,body,h1,h2,h3⟩:=h;exact⟨l,vs,fn,tmps,asg,body,h1,h2,h3.mono hr⟩
 ·rename_i hg;rw[f2m hg];exact Calls.mono h hr
theorem b2y{E:Env}{g:FuncId}(hg:g≠yId):XOf E g=λan w R=>Calls E.P g an.toArray w R:=f2m hg
theorem e3n{E:Env}:XOf E yId=XR E:=f2w rfl
theorem c8p{E:Env}(ok:EnvOk E){g:FuncId}{i:FInfo}(h:E.fn g=some i):g≠yId:=λe=>by rw[e,ok.yid]at h;cases h
def a9a(E:Env)(f:FuncId)(run:List AV->a03->Option (AV×a03)):Prop:=
 ∀args H v H',run args H=some (v,H')->∀(I K:Nat->Prop) (ρ:PMap) (w:World) (an:List Value),HRel E.G I K ρ (a02 H) w->NRel ρ H.length->VRels I w ρ args an->
  XOf E f an w λen w'=>∃c I' ρ',en = .returned c∧Ret E I K ρ H.length w I' ρ' H' w'∧VRel I' w' ρ' v c
def b66(K:Nat->Prop)(ρ:PMap)(hp:FHeap)(σ:List Nat):Nat->Prop:=λc=>K c∨∃b o m,hp b=some o∧ρ b=some m∧m.blk=c∧b∉σ
theorem a2n{σ:List Nat}{b j:Nat}(h:σ.idxOf? b=some j):σ[j]?=some b:=by rw[List.idxOf?_eq_some_iff]at h;obtain⟨hj,hb,_⟩:=h;rw[z9e hj,hb]
theorem b1w{σ:List Nat}{b:Nat}(h:σ.idxOf? b=none):b∉σ:=by simpa[List.idxOf?_eq_none_iff]using h
theorem a9l{l:List Nat}(h:a54 l=true):l.Nodup:=by
 induction l with
 |nil=>exact List.nodup_nil
 |cons b r ih=>simp only[a54,f1d,f6z,<-Bool.not_eq_true,a2p]at h;exact f8j.2 ⟨h.1,ih h.2⟩
theorem a6u{σ:List Nat}{b j:Nat}(hn:σ.Nodup)(h:σ[j]?=some b):σ.idxOf? b=some j:=by rw[List.idxOf?_eq_some_iff];obtain⟨hj,hb⟩:=f1i.1 h;refine⟨hj,hb,λi hi he=>?_⟩;have:=(List.getElem_inj (h₀:=by omega) (h₁:=hj) hn).1 (he.trans hb.symm);omega
section
variable {E:Env}{I K:Nat->Prop}{ρ:PMap}{hp:FHeap}{w:World}{σ:List Nat}
def a6e(hp:FHeap)(σ:List Nat):a03:=σ.map λb=>(hp b).map (a0g (a78 σ))
theorem b6y(j:Nat):a02 (a6e hp σ) j=(σ[j]?).bind λb=>(hp b).map (a0g (a78 σ)):=by simp only[a02,a6e,f1l];cases σ[j]?<;>simp
theorem d22(r:HRel E.G I K ρ hp w)(hn:σ.Nodup):HRel E.G I (b66 K ρ hp σ) (λj=>(σ[j]?).bind ρ) (a02 (a6e hp σ)) w:=by
 have r1:HRel E.G I K (λj=>(σ[j]?).bind ρ) (a02 (a6e hp σ)) w:=by
  refine r.rename (π:=a78 σ) ?_ ?_ ?_
  ·intro b j m hj hb;have:=a2n hj;simp only[this,f7s,hb]
  ·intro j o' ho;rw[b6y]at ho;cases hb:σ[j]? with
   |none=>rw[hb]at ho;simp at ho
   |some b=>
    rw[hb]at ho;simp only[f7s]at ho;cases eZ:hp b with
    |none=>rw[eZ]at ho;simp at ho
    |some o=>rw[eZ]at ho;simp only[f2k,Option.some.injEq]at ho;exact⟨b,o,eZ,a6u hn hb,ho.symm⟩
  ·intro j m hj;cases hb:σ[j]? with
   |none=>rw[hb]at hj;simp at hj
   |some b=>rw[hb]at hj;exact r.dom b m hj
 refine⟨?_,r1.inj,r1.dom,r1.imm,?_,?_,r1.glob⟩
 ·intro j o' ho;obtain⟨m,h1,h2,h3,h4⟩:=r1.live j o' ho;refine⟨m,h1,h2,?_,h4⟩
  rintro(hk|⟨b,o,m',hb,bl,he,kf⟩)
  ·exact h3 hk
  ·rw[b6y]at ho;cases hσ:σ[j]? with
   |none=>rw[hσ]at ho;simp at ho
   |some b'=>
    rw[hσ]at ho h1;simp only[f7s]at ho h1;have hl:(hp b').isSome:=by cases h:hp b' with|none=>rw[h]at ho;simp at ho|some _=>rfl
    have:=r.inj b b' m' m (by simp[hb]) hl bl h1 he;subst this;exact kf (c11 hσ)
 ·rintro c (hk|⟨b,o,m',hb,bl,rfl,_⟩)
  ·exact r.kept c hk
  ·exact r.dom b m' bl
 ·rintro c hc (hk|⟨b,o,m',hb,bl,rfl,_⟩)
  ·exact r.apart c hc hk
  ·obtain⟨uj,h1,h2,_⟩:=r.live b o hb;obtain rfl:m'=uj:=z9o (bl.symm.trans h1);exact h2 hc
theorem c00{g:FuncId}{run:List AV->a03->Option (AV×a03)}(ae:a9a E g run){args:List AV}{an:List Value}{v1:AV}{H1:a03}
 (af:run (args.map (ren (a78 σ))) (a6e hp σ)=some (v1,H1))(r:HRel E.G I K ρ hp w)(hn:σ.Nodup)(ha:VRels I w ρ args an) :
 XOf E g an w λen w'=>∃c I1 ρ1,en = .returned c∧Ret E I (b66 K ρ hp σ) (λj=>(σ[j]?).bind ρ) σ.length w I1 ρ1 H1 w'∧VRel I1 w' ρ1 v1 c:=by
 have h:=ae _ _ _ _ af I (b66 K ρ hp σ) (λj=>(σ[j]?).bind ρ) w an (d22 r hn)
  (by intro j hj;simp only[a6e,c10]at hj;simp[f2s hj])
  (by rw[<-a7o];exact VRels.ren (λb j m hj hb=>by have:=a2n hj;simp only[this,f7s,hb]) args ha)
 simpa[a6e]using h
theorem c01{n:Nat}{I1:Nat->Prop}{ρ1:PMap}{H1:a03}{w':World}(r:HRel E.G I K ρ hp w)(_:σ.Nodup)
 (aE:Ret E I (b66 K ρ hp σ) (λj=>(σ[j]?).bind ρ) σ.length w I1 ρ1 H1 w'){ρ2:PMap}{h2:FHeap}
 (aG:∀b m,ρ b=some m->ρ2 b=some m)(cN:∀j b m,a1d σ n j=some b->ρ1 j=some m->ρ2 b=some m)
 (nA:∀b m,ρ2 b=some m->ρ b=some m∨∃j,ρ1 j=some m)
 (hh:∀b o,h2 b=some o->(b∉σ∧hp b=some o)∨∃j o1,a1d σ n j=some b∧a02 H1 j=some o1∧o=a0g (a1d σ n) o1) :
 HRel E.G I1 K ρ2 h2 w':=by
 have cj:=aE.ext.size;have da:∀c,I c->w'.heap[c]?=w.heap[c]?:=λc hc=>aE.ext.keep c (.inl hc);have r1:=aE.rel;have jR:∀b o,h2 b=some o->∃m,ρ2 b=some m∧¬I1 m.blk∧¬K m.blk∧ORel E.G I1 w' ρ2 m o∧((b∉σ∧hp b=some o∧ρ b=some m)∨∃j,a1d σ n j=some b∧(a02 H1 j).isSome∧ρ1 j=some m):=by
  intro b o hb;rcases hh b o hb with ⟨kf,eZ⟩|⟨j,o1,hj,eE,rfl⟩
  ·obtain⟨m,h1,h3,h4,h5⟩:=r.live b o eZ;have tD:b66 K ρ hp σ m.blk:=.inr ⟨b,o,m,eZ,h1,rfl,kf⟩;refine⟨m,aG b m h1,λhc=>r1.apart _ hc tD,h4,?_,.inl ⟨kf,eZ,h1⟩⟩;exact ORel.mono o aE.imm da aG (aE.ext.keep _ (.inr tD)) h5
  ·obtain⟨m,h1,h3,h4,h5⟩:=r1.live j o1 eE;refine⟨m,cN j b m hj h1,h3,λhk=>h4 (.inl hk),ORel.ren (λj b m hj h=>cN j b m hj h) o1 h5,.inr ⟨j,hj,by simp[eE],h1⟩⟩
 refine⟨?_,?_,?_,r1.imm,?_,?_,r1.glob⟩
 ·intro b o hb;obtain⟨m,h1,h3,h4,h5,_⟩:=jR b o hb;exact⟨m,h1,h3,h4,h5⟩
 ·intro b b' m m' hb a6 hm bl he;obtain⟨o,ho⟩:=f1j.1 hb;obtain⟨o',eR⟩:=f1j.1 a6;obtain⟨q,hq,_,_,_,hc⟩:=jR b o ho;obtain⟨q',jo,_,_,_,qF⟩:=jR b' o' eR;rw[hm]at hq;cases hq;rw[bl]at jo;cases jo;rcases hc with ⟨kf,eZ,h1⟩|⟨j,hj,hl,h1⟩<;>rcases qF with ⟨rA,pi,eW⟩|⟨j',mu,qA,eW⟩
  ·exact r.inj b b' m m' (by simp[eZ]) (by simp[pi]) h1 eW he
  ·exfalso;obtain⟨o1,eE⟩:=f1j.1 qA;obtain⟨q,hq,_,hk,_⟩:=r1.live j' o1 eE;rw[eW]at hq;cases hq;exact hk (.inr ⟨b,o,m,eZ,h1,he,kf⟩)
  ·exfalso;obtain⟨o1,eE⟩:=f1j.1 hl;obtain⟨q,hq,_,hk,_⟩:=r1.live j o1 eE;rw[h1]at hq;cases hq;exact hk (.inr ⟨b',o',m',pi,eW,he.symm,rA⟩)
  ·have:=r1.inj j j' m m' hl qA h1 eW he;subst this;rw[hj]at mu;exact z9o mu
 ·intro b m hb;rcases nA b m hb with h|⟨j,h⟩
  ·have:=r.dom b m h;omega
  ·exact r1.dom j m h
 ·intro c hc;have:=r.kept c hc;omega
 ·intro c hc hk;exact r1.apart c hc (.inl hk)
end
end Go.Ax
/- AxCall2: a call in sequence; the concrete step of a call. -/
namespace Go.Ax
section
variable {E:Env}{I K:Nat->Prop}{ρ:PMap}{w:World}
theorem a7q(σ:List Nat)(n:Nat)(H1:a03):∀(b0:Nat) (H:a03) (i:Nat),
 (a1h σ n H1 b0 H)[i]?=(H[i]?).map λo=>match σ.idxOf? (b0+i)with
  |some j=>(a02 H1 j).map (a0g (a1d σ n))
  |none=>o
 |b0,[],i=>by simp[a1h]
 |b0,o::r,0=>by simp[a1h]<;>rfl
 |b0,o::r,i+1=>by simp only[a1h,f4r];rw[a7q σ n H1 (b0+1) r i,show b0+1+i=b0+(i+1) by omega]
theorem a1f(σ:List Nat)(n:Nat)(H1:a03):∀(b0:Nat) (H:a03),(a1h σ n H1 b0 H).length=H.length
 |b0,[]=>by simp[a1h]
 |b0,o::r=>by simp[a1h,a1f σ n H1 (b0+1) r]
theorem b28{g:FuncId}{run:List AV->a03->Option (AV×a03)}(ae:a9a E g run){args:List AV}{an:List Value}{H H':a03}{v:AV}{σ:List Nat}
 (af:a2v run args H=some (v,H',σ))(r:HRel E.G I K ρ (a02 H) w)(hn:NRel ρ H.length)(ha:VRels I w ρ args an) :
 XOf E g an w λen w'=>∃c I' ρ',en = .returned c∧Ret E I K ρ H.length w I' ρ' H' w'∧VRel I' w' ρ' v c:=by
 unfold a2v at af;simp only at af;generalize hσ:a24 H a3o (a0d args) []=σ' at af;rw[cond_eq_ite]at af;split at af
 case isFalse=>cases af
 rename_i hc;simp only[f1d,f4l,f4o]at hc;obtain⟨bn,ai⟩:=hc;have bn:=a9l bn;split at af
 case h_2=>cases af
 rename_i v1 H1 hr;simp only[Option.some.injEq,Prod.mk.injEq]at af;obtain⟨rfl,rfl,rfl⟩:=af;have kd:run (args.map (ren (a78 σ'))) (a6e (a02 H) σ')=some (v1,H1):=hr;refine XOf.mono (c00 ae kd r bn ha) ?_
 rintro en w' ⟨c,I1,ρ1,rfl,aE,hv⟩
 have cN:∀j b m,a1d σ' H.length j=some b->ρ1 j=some m->(if b<H.length then ρ b else ρ1 (σ'.length+(b-H.length)))=some m:=by
  intro j b m hj hm;simp only[a1d]at hj;rw[cond_eq_ite]at hj;split at hj
  ·rename_i bg;have bg:j<σ'.length:=by simpa[f4o]using bg
   have hb:=ai b (c11 hj);rw[f2w hb];have:=aE.map j bg;rw[hm,hj]at this;exact this.symm
  ·rename_i bg;have bg:σ'.length<=j:=by simpa[f4o]using bg
   cases hj;rw[f2m (by omega),show σ'.length+(H.length+(j-σ'.length)-H.length)=j by omega];exact hm
 have aG:∀b m,ρ b=some m->(if b<H.length then ρ b else ρ1 (σ'.length+(b-H.length)))=some m:=by
  intro b m hb;have:b<H.length:=by
   rcases f6u b H.length with h|h
   ·exact h
   ·rw[hn b h]at hb;cases hb
  rw[f2w this];exact hb
 refine⟨c,I1,λb=>if b<H.length then ρ b else ρ1 (σ'.length+(b-H.length)),rfl,⟨aE.imm,λb hb=>by rw[f2w hb],aE.ext.keepLess (λc hc=>.inl hc),?_,?_,?_⟩,?_⟩
 ·refine c01 r bn aE aG cN ?_ ?_
  ·intro b m hb;split at hb
   ·exact .inl hb
   ·exact .inr ⟨_,hb⟩
  ·intro b o hb;simp only[a02]at hb;rcases f6u b H.length with dm|dm
   ·rw[f2l (by rw[a1f];exact dm),a7q]at hb;simp only[f2u]at hb;rw[z9e dm]at hb;simp only[f2k,f8r]at hb;split at hb
    ·rename_i j hj;right;have hσj:=a2n hj;have bg:=(f1i.1 hσj).1;obtain⟨o1,eE,rfl⟩:=a08 hb;refine⟨j,o1,?_,eE,rfl⟩;simp only[a1d];rw[cond_eq_ite,f2w (by simpa[f4o]using bg)];exact hσj
    ·rename_i hj;left;exact⟨b1w hj,by simp only[a02];rw[z9e dm];simpa using hb⟩
   ·right;rw[f2r (by rw[a1f];exact dm),a1f,f1l,List.getElem?_drop]at hb;refine⟨σ'.length+(b-H.length),?_⟩;cases hx:H1[σ'.length+(b-H.length)]? with
    |none=>rw[hx]at hb;simp at hb
    |some ob=>
     rw[hx]at hb;simp only[f2k,f8r]at hb;obtain⟨o1,rfl,rfl⟩:=a08 hb;refine⟨o1,?_,by simp[a02,hx],rfl⟩;simp only[a1d];rw[cond_eq_ite,f2m (by simp[f4o])]
     congr 1;omega
 ·intro b hb;simp only[f2n,a1f,c10,List.length_drop]at hb;have dz:=aE.low;dsimp only;rw[f2m (by omega)];exact aE.nrel _ (by omega)
 ·simp[a1f]
 ·exact VRel.ren (λj b m hj hm=>cN j b m hj hm) v1 hv
theorem b14{a:Act}{o:Oper}{f:Operand}{args:Array Operand}{qp:Array TypeId}(ho:o.op = .call ⟨.value f,args,qp⟩){g:FuncId}{fs cs:Array Value}(hf:a.eval f = .func (.func g) fs cs) :
 (execOp a.eval o).run E.P w=(callFunc g (fs++args.map a.eval++cs)).run E.P w:=by
 obtain⟨dst,op,type,pos,after,guard⟩:=o;simp only at ho;subst ho;simp[execOp,resolve,hf,Deferred.ofValue,invoke]
theorem a49(ok:EnvOk E){g:FuncId}(hg:(E.fn g).isSome=true)(args:Array Value):(callFunc g args).run E.P w = .ok (.enter g args) w:=by
 obtain⟨i,hi⟩:=f1j.1 hg;obtain⟨fn,h1,h2,_,_,h5⟩:=ok.fn g i hi
 have h6:¬fn.name = "runtime.NumGoroutine" := by simpa using h5
 simp[callFunc,h1,h2,h6]
theorem b2v(ok:EnvOk E){g:FuncId}(hg:E.ext g=true)(bE:(E.fn g).isSome=false){args:List AV}{an:List Value}{v:AV}(hv:f3r args=some v)(ha:VRels I w ρ args an) :
 ∃c,(callFunc g an.toArray).run E.P w = .ok (.value c) w∧VRel I w ρ v c:=by
 obtain⟨fn,h1,h2,h3,h4,h5⟩:=ok.ext g hg bE;unfold f3r at hv;split at hv
 case h_2=>cases hv
 rename_i s cc;cases hv;simp only[VRels]at ha;obtain⟨c1,_,rfl,hs,c2,_,rfl,hb,rfl⟩:=ha;simp only[VRel]at hs hb;obtain⟨t,rfl,ht⟩:=hs;subst hb;refine⟨.int .i64 (Lib.indexByte s cc.toNat.toUInt8),?_,by simp[VRel]⟩;have:=Lib.run_indexByteString (P:=E.P) t cc w;rw[ht]at this
 have h6:¬fn.name = "runtime.NumGoroutine" := by simpa using h3
 simp[callFunc,h1,h2,h6,h4,h5,this]
end
end Go.Ax
/- AxWf: the walk of a function's body and that of a round's, in one. -/
namespace Go.Ax
def wf:Option Nat->Fence
 |none=>Fence.wide
 |some l=>Fence.wide.inRound l
@[simp] theorem e01(ro:Option Nat)(f:FuncId):(wf ro).fn f:=by cases ro<;>trivial
@[simp] theorem d56(ro:Option Nat):(wf ro).round=ro:=by cases ro<;>rfl
@[simp] theorem e87(ro:Option Nat):(wf ro).depth=none:=by cases ro<;>rfl
theorem d81{ro:Option Nat}{n:Nat}{P:Program}{f:FuncId}{args:Array Value}{w:World}{R:Ending->World->Prop}:CallsIn (wf ro) n P f args w R↔Calls P f args w R:=by
 cases ro
 ·exact callsIn_wide
 ·exact callsIn_wide (n:=n)
theorem d5x{ro:Option Nat}{n:Nat}{P:Program}{l:Nat}{f:FuncId}{tmps:Array Value}{assign body:Code}{w:World}{R:Ending->World->Prop} :
 RoundIn (wf ro) n P l f tmps assign body w R↔RoundIn Fence.wide n P l f tmps assign body w R:=by
 cases ro<;>exact Iff.rfl
section
variable {P:Program}{ro:Option Nat}{o:Oper}{a:Act}{w:World}{K:Act->World->Prop}{Q:Exit->Act->World->Prop}
theorem a8i(hd:∀c,o.op≠ .defer c)(h:o.uponIn (wf ro) 0 P a K Q ((execOp a.eval o).run P w)):o.wpIn (wf ro) 0 P a w K Q:=⟨λf _=>e01 ro f,by rw[d56,Oper.semAt_eq _ _ _ hd];exact h⟩
theorem a9b{f:FuncId}{args:Array Value}(h:Calls P f args w fun
 |.returned v,kN=>K (a.put o.dst v) kN
 |.panicked chain,kN=>Q (.panic chain) a kN
 |.outgrown,_=>LetsOut Q):o.uponIn (wf ro) 0 P a K Q (.ok (.enter f args) w):=
 ⟨λh=>by simp at h,d81.2 h⟩
theorem b6s{l:Nat}{f:FuncId}{tmps:Array Value}{assign body:Code}(h:RoundIn Fence.wide 0 P l f tmps assign body w fun
 |.returned v,kN=>K (a.put o.dst v) kN
 |.panicked chain,kN=>Q (.panic chain) a kN
 |.outgrown,_=>LetsOut Q):o.uponIn (wf ro) 0 P a K Q (.ok (.round l f tmps assign body) w):=
 ⟨λh=>by simp at h,d5x.2 h⟩
theorem b63{E:Env}{n:Nat}{h:FHeap}{op:Op}{v:Operand->AV}{r:AV×Eff}(ha:aop E n h op v=some r):∀c,op≠ .defer c:=by
 rintro c rfl
 simp[aop]at ha
theorem b80{f:Operand}{args:Array Operand}{qp:Array TypeId}(ho:o.op = .call ⟨.value f,args,qp⟩){l:Nat}(hf:a.eval f = .func (.yield l) #[] #[]) :
 (execOp a.eval o).run P w=(Instr.yield l (args.map a.eval)).run P w:=by
 obtain⟨dst,op,type,pos,after,guard⟩:=o;simp only at ho;subst ho;simp[execOp,resolve,hf,Deferred.ofValue,invoke]
end
end Go.Ax
/- AxLend: lent calls: the callee sees its caller's memory as immutable, and gives new memory only, which is frozen at once. -/
namespace Go.Ax
section
variable {I I':Nat->Prop}{w:World}{ρ:PMap}
mutual
theorem VRel.noI:∀(v:AV) {c:Value},noI v=true->VRel I w ρ v c->VRel I' w ρ v c
 |.junk,c,_,h=>by simp[VRel]
 |.bool b,c,_,h=>by simpa[VRel]using h
 |.int k n,c,_,h=>by simpa[VRel]using h
 |.str s,c,_,h=>by simpa[VRel]using h
 |.nilptr,c,_,h=>by simpa[VRel]using h
 |.nilslice,c,_,h=>by simpa[VRel]using h
 |.nilmap,c,_,h=>by simpa[VRel]using h
 |.nilfunc,c,_,h=>by simpa[VRel]using h
 |.nilifc,c,_,h=>by simpa[VRel]using h
 |.ptr b i o,c,_,h=>by simpa only[VRel]using h
 |.slice b off len cap,c,_,h=>by simpa only[VRel]using h
 |.map b,c,_,h=>by simpa only[VRel]using h
 |.yfn b,c,_,h=>by simpa only[VRel]using h
 |.iptr cs,c,hn,_=>by simp[Ax.noI]at hn
 |.islice aa cap,c,hn,_=>by simp[Ax.noI]at hn
 |.imap ks vs bs br,c,hn,_=>by simp[Ax.noI]at hn
 |.iset ks,c,hn,_=>by simp[Ax.noI]at hn
 |.func fn fs cs,c,hn,h=>by simp only[Ax.noI,f1d]at hn;simp only[VRel]at h⊢;obtain⟨a,b,rfl,h1,h2⟩:=h;exact⟨a,b,rfl,VRels.noI fs hn.1 h1,VRels.noI cs hn.2 h2⟩
 |.iface t x,c,hn,h=>by simp only[Ax.noI]at hn;simp only[VRel]at h⊢;obtain⟨a,rfl,h1⟩:=h;exact⟨a,rfl,VRel.noI x hn h1⟩
 |.agg cs,c,hn,h=>by simp only[Ax.noI]at hn;simp only[VRel]at h⊢;obtain⟨a,rfl,h1⟩:=h;exact⟨a,rfl,VRels.noI cs hn h1⟩
 |.tuple cs,c,hn,h=>by simp only[Ax.noI]at hn;simp only[VRel]at h⊢;obtain⟨a,rfl,h1⟩:=h;exact⟨a,rfl,VRels.noI cs hn h1⟩
theorem VRels.noI:∀(vs:List AV) {cs:List Value},c1e vs=true->VRels I w ρ vs cs->VRels I' w ρ vs cs
 | [],cs,_,h=>by simpa[VRels]using h
 |v::vs,cs,hn,h=>by simp only[c1e,f1d]at hn;simp only[VRels]at h⊢;obtain⟨c,aO,rfl,h1,h2⟩:=h;exact⟨c,aO,rfl,VRel.noI v hn.1 h1,VRels.noI vs hn.2 h2⟩
end
theorem VAt.noI:∀(vs:List AV) {b off:Nat},c1e vs=true->VAt I w ρ vs b off->VAt I' w ρ vs b off
 | [],b,off,_,h=>by simp[VAt]
 |v::vs,b,off,hn,h=>by simp only[c1e,f1d]at hn;simp only[VAt]at h⊢;obtain⟨⟨c,hc,h1⟩,h2⟩:=h;exact⟨⟨c,hc,VRel.noI v hn.1 h1⟩,VAt.noI vs hn.2 h2⟩
theorem VRows.noI{k:Nat}:∀(rs:List (List AV)) {b off:Nat},rs.all c1e=true->VRows I w k ρ rs b off->VRows I' w k ρ rs b off
 | [],b,off,_,h=>by simp[VRows]
 |r::rs,b,off,hn,h=>by simp only[List.all_cons,f1d]at hn;simp only[VRows]at h⊢;exact⟨h.1,VAt.noI r hn.1 h.2.1,VRows.noI rs hn.2 h.2.2⟩
theorem ORel.noI{G:GTab (List AV)}{m:Pl}(o:AObj)(hn:e49 o=true)(h:ORel G I w ρ m o):ORel G I' w ρ m o:=by
 cases o with
 |row k aa=>exact⟨h.1,h.2.1,h.2.2.1,VRows.noI aa hn h.2.2.2⟩
 |map ks vs bs br=>simp only[e49,f1d]at hn;obtain⟨es,h1,h2,h3,h4⟩:=h;exact⟨es,h1,VRels.noI ks hn.1 h2,VRels.noI vs hn.2 h3,h4⟩
 |siter s pos=>exact h
 |uset ks=>exact h
 |miter ks dC dK=>simp[e49]at hn
 |yloop y F st=>simp[e49]at hn
end
theorem a7x{H:a03}{b:Nat}{o:AObj}(h:a6x H b=some o):a02 H b=some o∧e49 o=true:=by
 unfold a6x at h;split at h
 case h_2=>cases h
 rename_i o' ho;rw[cond_eq_ite]at h;split at h
 case isFalse=>cases h
 rename_i hn;cases h;exact⟨ho,hn⟩
section
variable {E:Env}{I K:Nat->Prop}{ρ:PMap}{h hl:FHeap}{w:World}
theorem c1q{g:FuncId}{run:List AV->a03->Option (AV×a03)}(ae:a9a E g run)(aV:∀b o,hl b=some o->h b=some o)(r:HRel E.G I K ρ h w){args au:List AV}{an:List Value}{v v':AV}{H1:a03}
 (ha:VRels I w ρ args an)(hf:a5r 0 false (a3k hl 0 12) args=some au)(hr:run au []=some (v,H1))(hn:noI v=true)(hv:a36 0 false (a3k (a6x H1) 0 12) v=some v') :
 XOf E g an w λen w'=>∃c I',en = .returned c∧(∀c,I c->I' c)∧Ext I K w w'∧HRel E.G I' K ρ h w'∧VRel I' w' ρ v' c:=by
 have rl:HRel E.G I K ρ hl w:=r.fewer aV;have hI:∀c,I c->a41 I ρ hl 0 c:=λc hc=>.inl hc;have h1:=a8x hI (a67 rl 12) args hf ha;rw[a7z]at h1;have vz:∀c,a41 I ρ hl 0 c->a41 I ρ h 0 c:=by
  rintro c (hc|⟨b,o,p,h0,hb,hp,he⟩)
  ·exact .inl hc
  ·exact .inr ⟨b,o,p,h0,aV b o hb,hp,he⟩
 have h2:VRels (a41 I ρ h 0) w noP au an:=VRels.mono vz (λ_ _=>rfl) au (λ_ _ h=>h) h1;have oK:∀c,a41 I ρ h 0 c->c<w.heap.size:=by
  rintro c (hc|⟨b,o,p,_,_,hp,rfl⟩)
  ·exact r.imm c hc
  ·exact r.dom b p hp
 have qV:HRel E.G (a41 I ρ h 0) K noP (a02 []) w:=by
  refine⟨λb o hb=>by simp[a02]at hb,λb b' m m' hb=>by simp[a02]at hb,λb m hb=>by simp[noP]at hb,oK,r.kept,?_,λg cs hg=>⟨.inl (r.glob g cs hg).1,VAt.mono (λc hc=>.inl hc) (λ_ _=>rfl) cs (λ_ _ h=>h) rfl (r.glob g cs hg).2⟩⟩
  rintro c (hc|⟨b,o,p,_,hb,hp,rfl⟩)
  ·exact r.apart c hc
  ·obtain⟨q,hq,_,hk,_⟩:=r.live b o hb;rw[hp]at hq;cases hq;exact hk
 have af:=ae au [] v H1 hr (a41 I ρ h 0) K noP w an qV (λ_ _=>rfl) h2;refine XOf.mono af ?_
 rintro en w' ⟨c,I1,ρ1,rfl,aE,jX⟩
 have keep:∀c,I c->w'.heap[c]?=w.heap[c]?:=λc hc=>aE.ext.keep c (.inl (.inl hc));have cj:=aE.ext.size;have l6:∀b o p,a6x H1 b=some o->ρ1 b=some p->¬I1 p.blk∧¬K p.blk:=by intro b o p hb hp;obtain⟨q,hq,h3,h4,_⟩:=aE.rel.live b o (a7x hb).1;rw[hp]at hq;cases hq;exact⟨h3,h4⟩
 have qU:HRel E.G I K ρ1 (a6x H1) w':=by
  refine⟨?_,?_,aE.rel.dom,λc hc=>by have:=r.imm c hc;omega,aE.rel.kept,r.apart,λg cs hg=>⟨(r.glob g cs hg).1,VAt.mono (λ_ h=>h) keep cs (λ_ _ h=>h) (keep _ (r.glob g cs hg).1) (r.glob g cs hg).2⟩⟩
  ·intro b o hb;obtain⟨cO,em⟩:=a7x hb;obtain⟨q,hq,h3,h4,h5⟩:=aE.rel.live b o cO;exact⟨q,hq,λhc=>h3 (aE.imm _ (.inl hc)),h4,ORel.noI o em h5⟩
  ·intro b b' m m' hb a6;obtain⟨o,ho⟩:=f1j.1 hb;obtain⟨o',eR⟩:=f1j.1 a6;exact aE.rel.inj b b' m m' (by rw[(a7x ho).1];rfl) (by rw[(a7x eR).1];rfl)
 have n7:=b1y (I':=a41 I ρ1 (a6x H1) 0) (λc hc=>.inl hc) (a67 qU 12) v hv (VRel.noI (I':=I) v hn jX);rw[a7z]at n7;refine⟨c,a41 I ρ1 (a6x H1) 0,rfl,λc hc=>.inl hc,⟨aE.ext.os,aE.ext.tape,aE.ext.output,cj,λc hc=>aE.ext.keep c (hc.imp .inl id)⟩,?_,VRel.mono (λ_ h=>h) (λ_ _=>rfl) v' (λ_ _ h=>by simp[noP]at h) n7⟩;refine⟨?_,r.inj,λb m hb=>by have:=r.dom b m hb;omega,?_,aE.rel.kept,?_,λg cs hg=>⟨.inl (r.glob g cs hg).1,VAt.mono (λc hc=>.inl hc) keep cs (λ_ _ h=>h) (keep _ (r.glob g cs hg).1) (r.glob g cs hg).2⟩⟩
 ·intro b o hb;obtain⟨m,h3,h4,h5,h6⟩:=r.live b o hb;have bw:a41 I ρ h 0 m.blk:=.inr ⟨b,o,m,f2i _,hb,h3,rfl⟩;refine⟨m,h3,?_,h5,ORel.mono o (λc hc=>.inl hc) keep (λ_ _ h=>h) (aE.ext.keep _ (.inl bw)) h6⟩
  rintro(hc|⟨b',o',p,_,a6,hp,he⟩)
  ·exact h4 hc
  ·exact(l6 b' o' p a6 hp).1 (he▸aE.imm _ bw)
 ·rintro c (hc|⟨b',o',p,_,a6,hp,rfl⟩)
  ·have:=r.imm c hc;omega
  ·exact aE.rel.dom b' p hp
 ·rintro c (hc|⟨b',o',p,_,a6,hp,rfl⟩)
  ·exact r.apart c hc
  ·exact(l6 b' o' p a6 hp).2
theorem b4z{run:List AV->a03->Option (AV×a03)}{args:List AV}{H H':a03}{v':AV}{σ:List Nat}(af:a8t run args H=some (v',H',σ)) :
 H'=H∧σ=List.range H.length∧∃au v H1,a5r 0 false (a3k (a02 H) 0 12) args=some au∧run au []=some (v,H1)∧noI v=true∧a36 0 false (a3k (a6x H1) 0 12) v=some v':=by
 unfold a8t at af;split at af
 case h_2=>cases af
 rename_i au h1;split at af
 case h_2=>cases af
 rename_i v H1 h2;rw[cond_eq_ite]at af;split at af
 case isFalse=>cases af
 rename_i h3;split at af
 case h_2=>cases af
 rename_i v2 h4;cases af;exact⟨rfl,rfl,au,v,H1,h1,h2,h3,h4⟩
theorem c8g{g:FuncId}{run:List AV->a03->Option (AV×a03)}(ae:a9a E g run){args:List AV}{an:List Value}{H H':a03}{v:AV}{σ:List Nat}
 (af:a8t run args H=some (v,H',σ))(r:HRel E.G I K ρ (a02 H) w)(hn:NRel ρ H.length)(ha:VRels I w ρ args an) :
 XOf E g an w λen w'=>∃c I' ρ',en = .returned c∧Ret E I K ρ H.length w I' ρ' H' w'∧VRel I' w' ρ' v c:=by
 obtain⟨rfl,-,au,v0,H1,h1,h2,h3,h4⟩:=b4z af;refine XOf.mono (c1q ae (λ_ _ h=>h) r ha h1 h2 h3 h4) ?_
 rintro en w' ⟨c,I',rfl,hI,cV,bJ,hv⟩
 exact⟨c,I',ρ,rfl,⟨hI,λ_ _=>rfl,cV,bJ,hn,f2q _⟩,hv⟩
end
end Go.Ax
/- AxSeq: operations in a row that draw no order. -/
namespace Go.Ax
section
variable {E:Env}
theorem Now.call{e:Entry}{N:Nat}{F:Frm}{H H':a03}{I I':Nat->Prop}{ρ ρ':PMap}{a:Act}{w w':World}(h:Now E e N F H I ρ a w)(r:Ret E I e.K ρ H.length w I' ρ' H' w')
 {d:Option Tmp}{v:AV}{c:Value}(hd:a7f N d=true)(hv:VRel I' w' ρ' v c):Now E e N (a42 F d v) H' I' ρ' (a.put d c) w':=by
 have hρ:∀b m,ρ b=some m->ρ' b=some m:=by
  intro b m hb;have:b<H.length:=by
   rcases f6u b H.length with h'|h'
   ·exact h'
   ·rw[h.nrel b h']at hb;cases hb
  rw[r.map b this];exact hb
 refine⟨λc hc=>r.imm c (h.imm c hc),λb hb=>?_,h.ext.trans h.imm r.ext,r.rel,r.nrel,?_,?_,?_⟩
 ·rw[r.map b (by have:=h.low;omega)];exact h.map b hb
 ·exact(FRel.mono h.frm (λv c hv=>VRel.mono r.imm (λc hc=>r.ext.keep c (.inl hc)) v hρ hv)).set (by intro s hs;rw[hs]at hd;simpa[a7f,f4o]using hd) hv
 ·have:=h.low;have:=r.low;omega
 ·rw[a3f];exact h.marks.mono r.imm (λc hc=>r.ext.keep c (.inl hc))
def a45(E:Env)(call:FuncId->List AV->a03->Option (AV×a03)):Prop:=∀g,a9a E g (call g)
theorem d0e(ok:EnvOk E){ro:Option Nat}{call:FuncId->List AV->a03->Option (AV×a03)}(af:a45 E call){ah:Bool}{e:Entry}{N:Nat}{F:Frm}{H H':a03}{I:Nat->Prop}{ρ:PMap}{a:Act}{w:World}
 (h:Now E e N F H I ρ a w){o:Oper}{v:AV}{l:LogE}(hs:a10 E ah call F H o.op=some (v,H',l))(hd:a7f N o.dst=true){K:Act->World->Prop}{Q:Exit->Act->World->Prop}
 (hK:∀I' ρ' a' w',Now E e N (a42 F o.dst v) H' I' ρ' a' w'->K a' w'):o.wpIn (wf ro) 0 E.P a w K Q:=by
 unfold a10 at hs;split at hs
 ·rename_i f args qp eD;split at hs
  case h_2=>cases hs
  rename_i v' H1 σ aZ;cases hs;refine a8i (by rw[eD];intro c hc;cases hc) ?_;unfold a20 at aZ;split at aZ
  case h_3=>cases aZ
  case h_2=>
   rename_i b iN;have hf:=b4j h.rel h.frm f;rw[iN]at hf;simp only[VRel]at hf;obtain⟨m,hm,iP⟩:=hf;rw[b80 eD iP];split at aZ
   case h_2=>cases aZ
   rename_i oJ H2 σ2 eS;rw[cond_eq_ite]at aZ;split at aZ
   case isTrue=>cases aZ
   cases aZ;have aJ:VRels I w ρ (.yfn b::args.toList.map (opv E F)) (.func (.yield m.blk) #[] #[]::(args.map a.eval).toList):=by simp only[VRels];refine⟨_,_,rfl,by simp only[VRel];exact⟨m,hm,rfl⟩,?_⟩;rw[f8q];exact a5m (b4j h.rel h.frm) args.toList
   have hc:=b28 (af yId) eS h.rel h.nrel aJ;rw[e3n]at hc;obtain⟨l,vs,fn,tmps,asg,body,he,hy,hr⟩:=hc;simp only[List.cons.injEq,Value.func.injEq,Fn.yield.injEq,f8s]at he;obtain⟨hl,rfl⟩:=he;rw[hl];have bz:(args.map a.eval).toList.toArray=args.map a.eval:=by apply f9b;simp
   rw[bz]at hy;rw[hy];refine b6s (hr.mono ?_)
   rintro en w' ⟨c,I',ρ',rfl,aE,dk⟩
   exact hK I' ρ' _ _ (h.call aE hd dk)
  rename_i g fs cs iN;have hf:=b4j h.rel h.frm f;rw[iN]at hf;simp only[VRel]at hf;obtain⟨dj,aO,iP,lL,cL⟩:=hf;have aJ:VRels I w ρ (fs++args.toList.map (opv E F)++cs) (dj++args.map a.eval++aO).toList:=by simp only[Array.toList_append,f8q];exact VRels.append (VRels.append lL (a5m (b4j h.rel h.frm) args.toList)) cL
  rw[b14 eD iP];rw[cond_eq_ite]at aZ;split at aZ
  ·rename_i cV;rw[cond_eq_ite]at aZ;split at aZ
   ·rename_i hg;rw[a49 ok hg];have hc:=c8g (af g) aZ h.rel h.nrel aJ;obtain⟨i,hi⟩:=f1j.1 hg;rw[b2y (c8p ok hi)]at hc;have bz:(dj++args.map a.eval++aO).toList.toArray=dj++args.map a.eval++aO:=by apply f9b;simp
    rw[bz]at hc;refine a9b (Calls.mono hc ?_)
    rintro en w' ⟨c,I',ρ',rfl,aE,dk⟩
    exact hK I' ρ' _ _ (h.call aE hd dk)
   rename_i bE;split at aZ
   case h_2=>cases aZ
   rename_i oJ mW;cases aZ;obtain⟨c,ae,dk⟩:=b2v (E:=E) (w:=w) ok cV (by simpa using bE) mW aJ;have bz:(dj++args.map a.eval++aO).toList.toArray=dj++args.map a.eval++aO:=by apply f9b;simp
   rw[bz]at ae;rw[ae,Oper.uponIn_value];exact hK I ρ _ _ (h.call ⟨λ_ h=>h,λ_ _=>rfl,Ext.refl _ _ _,h.rel,h.nrel,f2q _⟩ hd dk)
  ·rw[cond_eq_ite]at aZ;split at aZ
   case isFalse=>cases aZ
   rename_i hg;split at aZ
   case h_2=>cases aZ
   rename_i oJ H2 σ2 eS;rw[cond_eq_ite]at aZ;split at aZ
   case isTrue=>cases aZ
   cases aZ;rw[a49 ok hg];have hc:=b28 (af g) eS h.rel h.nrel aJ;obtain⟨i,hi⟩:=f1j.1 hg;rw[b2y (c8p ok hi)]at hc;have bz:(dj++args.map a.eval++aO).toList.toArray=dj++args.map a.eval++aO:=by apply f9b;simp
   rw[bz]at hc;refine a9b (Calls.mono hc ?_)
   rintro en w' ⟨c,I',ρ',rfl,aE,dk⟩
   exact hK I' ρ' _ _ (h.call aE hd dk)
 ·split at hs
  case h_2=>cases hs
  rename_i v' eff ha;rw[cond_eq_ite]at hs;split at hs
  case isFalse=>cases hs
  cases hs;obtain⟨x,w',c,ρ',ae,hx,aj⟩:=h.op ok ha hd;refine a8i (b63 ha) ?_;rw[ae];rcases hx with rfl|⟨rfl,rfl⟩
  ·rw[Oper.uponIn_value];exact hK I ρ' _ _ aj
  ·rw[Oper.uponIn_skip];exact hK I ρ' _ _ aj
theorem b6q{ro:Option Nat}{P:Program}{ap:Array Oper}{Q:Exit->Act->World->Prop}{i:Nat}{al:List Nat}{a:Act}{w:World}{o:Oper}(ho:ap[i]?=some o)
 (hw:Region.wanted o (yielded ap a.tmps)=true)(h:o.wpIn (wf ro) 0 P a w (wpOpsIn (wf ro) 0 P ap Q al) Q):wpOpsIn (wf ro) 0 P ap Q (i::al) a w:=by
 simp only[wpOpsIn,ho,hw,f7i];exact h
theorem c72{ro:Option Nat}{P:Program}{ap:Array Oper}{Q:Exit->Act->World->Prop}{i:Nat}{al:List Nat}{a:Act}{w:World}{o:Oper}(ho:ap[i]?=some o)
 (hw:Region.wanted o (yielded ap a.tmps)=false)(h:wpOpsIn (wf ro) 0 P ap Q al (a.put o.dst undef) w):wpOpsIn (wf ro) 0 P ap Q (i::al) a w:=by
 simp only[wpOpsIn,ho,hw,f6t,f9d];exact⟨λf _=>e01 ro f,h⟩
theorem c71{e:Entry}{N:Nat}{F:Frm}{H:a03}{I:Nat->Prop}{ρ:PMap}{a:Act}{w:World}(h:Now E e N F H I ρ a w){ap:Array Oper}{j d:Nat}(hg:a3d ap.toList j=some d) :
 (∀b,a35 F d = .bool b->yielded ap a.tmps j=some b)∧(a35 F d = .tuple []->yielded ap a.tmps j=none):=by
 have hd:(ap[j]?).bind (·.dst)=some d:=by simpa[a3d]using hg
 have hv:=h.frm.2 d;have aM:∀c,a.tmps.getD d undef=c->c≠undef->a.tmps[d]?=some c:=by
  intro c hc aw;rw[f4u]at hc;cases hx:a.tmps[d]? with
  |none=>rw[hx]at hc;exact absurd hc.symm aw
  |some x=>rw[hx]at hc;simpa using hc
 refine⟨λb hb=>?_,λhb=>?_⟩
 ·rw[hb]at hv;simp only[VRel]at hv;have:=aM _ hv (by simp[undef]);simp[yielded,hd,this]
 ·rw[hb]at hv;simp only[VRel]at hv;obtain⟨cs,hc,cL⟩:=hv;unfold yielded;rw[hd];simp only[f7s];rw[f4u]at hc;cases hx:a.tmps[d]? with
  |none=>rfl
  |some x=>rw[hx]at hc;simp only[f4v]at hc;rw[hc]
theorem b1n(ok:EnvOk E){ro:Option Nat}{call:FuncId->List AV->a03->Option (AV×a03)}(af:a45 E call){e:Entry}{N:Nat}{ap:Array Oper}{R:Type}{k:Frm->a03->Option R}{r:R}
 {Q:Exit->Act->World->Prop}(hQ:∀F H I ρ a w,Now E e N F H I ρ a w->k F H=some r->Q .normal a w) :
 ∀(al:List Oper) (s:Nat) (log:List LogE) (F:Frm) (H:a03) (I:Nat->Prop) (ρ:PMap) (a:Act) (w:World),al=ap.toList.drop s->Now E e N F H I ρ a w->
  a2w E false N call ap.toList al log F H k=some r->wpOpsIn (wf ro) 0 E.P ap Q (List.range' s al.length) a w
 | [],s,log,F,H,I,ρ,a,w,_,aj,ae=>by simp only[a2w,Bool.not_false,Bool.true_or,f2v]at ae;simp only[f1h,List.range'_zero,wpOpsIn];exact hQ F H I ρ a w aj ae
 |o::al,s,log,F,H,I,ρ,a,w,du,aj,ae=>by
  have ho:ap[s]?=some o:=by
   have:(ap.toList.drop s)[0]?=some o:=by rw[<-du];rfl
   rw[List.getElem?_drop]at this;simpa using this
  have ge:al=ap.toList.drop (s+1):=by
   have:(ap.toList.drop s).drop 1=al:=by rw[<-du];rfl
   rw[List.drop_drop]at this;exact this.symm
  rw[f1c,List.range'_succ];unfold a2w at ae;rw[cond_eq_ite]at ae;split at ae
  case isFalse=>cases ae
  rename_i hd;have ih:=λlog F H I ρ a w aj ae=>b1n (ro:=ro) ok af hQ al (s+1) log F H I ρ a w ge aj ae;have exec:∀F0,Now E e N F0 H I ρ a w->(match a10 E false call F0 H o.op with
   |some (v,H',l)=>a2w E false N call ap.toList al (l::log) (a42 F0 o.dst v) H' k
   |none=>none)=some r->Region.wanted o (yielded ap a.tmps)=true->wpOpsIn (wf ro) 0 E.P ap Q (s::List.range' (s+1) al.length) a w:=by
   intro F0 bD hr hw;split at hr
   case h_2=>cases hr
   rename_i v H' l hs;exact b6q ho hw (d0e ok af bD hs hd (λI' ρ' a' w' dZ=>ih _ _ _ I' ρ' a' w' dZ hr))
  have skip:∀F0 gE,Now E e N F0 H I ρ a w->a2w E false N call ap.toList al gE (a42 F0 o.dst (.tuple [])) H k=some r->Region.wanted o (yielded ap a.tmps)=false->
   wpOpsIn (wf ro) 0 E.P ap Q (s::List.range' (s+1) al.length) a w:=by
   intro F0 gE bD hr hw;exact c72 ho hw (ih _ _ _ I ρ _ w (bD.skip hd) hr)
  split at ae
  ·rename_i hg;exact exec F aj ae (by simp[Region.wanted,hg])
  ·rename_i j bt hg;split at ae
   case h_1=>cases ae
   rename_i d pL;obtain⟨us,ur⟩:=c71 aj pL;split at ae
   ·rename_i b hb;have q8:=us b hb;have kR:=aj.frm.2 d;rw[hb]at kR;have hw:Region.wanted o (yielded ap a.tmps)=(b==bt):=by simp[Region.wanted,hg,q8]
    cases b
    ·simp only[f4i]at ae;have bD:=aj.refine (d:=d) (v:=.bool false) kR;cases bt
     ·simp only[f4i]at ae;exact exec _ bD ae (by rw[hw];rfl)
     ·simp only[f2v]at ae;exact skip _ _ bD ae (by rw[hw];rfl)
    ·simp only[f2v]at ae;have bD:=aj.refine (d:=d) (v:=.bool true) kR;cases bt
     ·simp only[f4i]at ae;exact skip _ _ bD ae (by rw[hw];rfl)
     ·simp only[f2v]at ae;exact exec _ bD ae (by rw[hw];rfl)
   ·rename_i hb;have q8:=ur hb;exact skip F _ aj ae (by simp[Region.wanted,hg,q8])
   ·cases ae
end
end Go.Ax
/- AxGc: what may be forgotten: slots behind a region, blocks at a loop's head. -/
namespace Go.Ax
section
variable {E:Env}{e:Entry}{N:Nat}{F:Frm}{H:a03}{I:Nat->Prop}{ρ:PMap}{a:Act}{w:World}
theorem b5b(F:Frm):∀(keep:List Nat) (s:Nat),a35 (a2c keep F) s=if keep.contains s then a35 F s else .junk
 | [],s=>by simp[a2c,a35]
 |t::keep,s=>by
  have ih:=b5b F keep s;simp only[a2c]at ih⊢;simp only[f1a,a35,d4v,ih];by_cases rd:t=s
  ·subst rd;simp
  ·have:(s==t)=false:=by simpa using λh=>rd h.symm
   have hc:(t::keep).contains s=keep.contains s:=by rw[List.contains_cons,this,Bool.false_or]
   rw[hc,f6o.2 rd];rfl
theorem Now.keep(h:Now E e N F H I ρ a w)(keep:List Nat):Now E e N (a2c keep F) H I ρ a w:=
 { h with frm:=⟨h.frm.1,λs=>by
  rw[b5b];split
  ·exact h.frm.2 s
  ·simp[VRel]⟩ }
theorem c61(π:Nat->Option Nat):∀(F:Frm) (s:Nat),a35 (c0h π F) s=ren π (a35 F s)
 | [],s=>by simp[c0h,a35,ren]
 |(t,v)::F,s=>by have ih:=c61 π F s;simp only[c0h]at ih⊢;simp only[f1a,a35,d4v,ih];cases h:(t==s)<;>simp
theorem Now.gc(h:Now E e N F H I ρ a w){σ:List Nat}(hn:σ.Nodup)(dz:∀b∈σ,e.m<=b) :
 ∃ρ',Now E e N (c0h (b6g e.m σ) F) (gcH e.m σ H) I ρ' a w:=by
 have ak:(gcH e.m σ H).length=e.m+σ.length:=by have:=h.low;simp[gcH,a4q];omega
 have hπ:∀b b' m,b6g e.m σ b=some b'->ρ b=some m->(if b'<e.m then ρ b' else(σ[b'-e.m]?).bind ρ)=some m:=by
  intro b b' m hp hb;simp only[b6g]at hp;rw[cond_eq_ite]at hp;split at hp
  ·rename_i ai;cases hp;rw[f2w (by simpa[f4o]using ai)];exact hb
  ·obtain⟨j,hj,rfl⟩:=a08 hp;rw[f2m (by omega),f7g,a2n hj];exact hb
 refine⟨λb=>if b<e.m then ρ b else(σ[b-e.m]?).bind ρ,h.imm,λb hb=>?_,h.ext,?_,?_,?_,?_,h.marks⟩
 ·show(if b<e.m then ρ b else _)=_;rw[f2w hb];exact h.map b hb
 ·refine h.rel.rename (π:=b6g e.m σ) hπ ?_ ?_
  ·intro b' o' ho;simp only[a02,gcH]at ho;have d5:(H.take e.m).length=e.m:=by have:=h.low;simp;omega
   rcases f6u b' e.m with hb|hb
   ·rw[f2l (by rw[c10,d5];exact hb),f1l,f8v,f2w hb]at ho;cases hx:H[b']? with
    |none=>rw[hx]at ho;simp at ho
    |some ob=>rw[hx]at ho;simp only[f2k,f8r]at ho;obtain⟨o,rfl,rfl⟩:=a08 ho;refine⟨b',o,by simp[a02,hx],?_,rfl⟩;simp only[b6g];rw[cond_eq_ite,f2w (by simpa[f4o]using hb)]
   ·rw[f2r (by rw[c10,d5];exact hb)]at ho;simp only[c10,d5,a4q,f1l]at ho;cases hx:σ[b'-e.m]? with
    |none=>rw[hx]at ho;simp at ho
    |some b=>rw[hx]at ho;simp only[f2k,f8r]at ho;obtain⟨o,eE,rfl⟩:=a08 ho;refine⟨b,o,eE,?_,rfl⟩;have dm:=dz b (c11 hx);simp only[b6g];rw[cond_eq_ite,f2m (by simpa[f4o]using dm),a6u hn hx];simp only[f2k,Option.some.injEq];omega
  ·intro b m hb;split at hb
   ·exact h.rel.dom b m hb
   ·cases hx:σ[b-e.m]? with
    |none=>rw[hx]at hb;simp at hb
    |some b'=>rw[hx]at hb;exact h.rel.dom b' m hb
 ·intro b hb;rw[ak]at hb;show(if b<e.m then ρ b else _)=_;rw[f2m (by omega),f2s (by omega)];rfl
 ·refine⟨h.frm.1,λs=>?_⟩;rw[c61];exact VRel.ren hπ _ (h.frm.2 s)
 ·rw[ak];omega
theorem e28{H:a03}{m b:Nat}{o':AObj}(hb:a02 (b0q m H) b=some o'):∃o,b<m∧a02 H b=some o∧o'=a90 m (a3k (a02 H) m 12) o:=by
 simp only[a02,b0q,f1l,f8v]at hb;split at hb
 case isFalse=>simp at hb
 rename_i ai;cases hx:H[b]? with
 |none=>rw[hx]at hb;simp at hb
 |some ob=>rw[hx]at hb;simp only[f2k,f8r]at hb;obtain⟨o,rfl,rfl⟩:=a08 hb;exact⟨o,ai,by simp[a02,hx],rfl⟩
theorem c62(m:Nat)(H:a03):∀(F:Frm) (s:Nat),a35 (b9p m H F) s = .junk∨a35 (b9p m H F) s=d7d m H (a35 F s)
 | [],s=>.inl (by simp[b9p,a35])
 |(t,v)::F,s=>by
  have ih:=c62 m H F s;simp only[b9p]at ih⊢;simp only[f1a,a35,d4v];cases h:(t==s)
  ·simpa using ih
  ·right;simp
theorem Now.frz(h:Now E e N F H I ρ a w)(j:Nat):∃I' ρ',Now E e N (b9p (e.m+j) H F) (b0q (e.m+j) H) I' ρ' a w:=by
 have ak:(b0q (e.m+j) H).length=min (e.m+j) H.length:=by simp[b0q]
 have dz:∀b o',a02 (b0q (e.m+j) H) b=some o'->∃o,b<e.m+j∧a02 H b=some o∧o'=a90 (e.m+j) (a3k (a02 H) (e.m+j) 12) o:=λb o' hb=>e28 hb;refine⟨a41 I ρ (a02 H) (e.m+j),ρ.below (e.m+j) true,λc hc=>.inl (h.imm c hc),λb hb=>?_,h.ext,?_,?_,⟨h.frm.1,λs=>?_⟩,by rw[ak];have:=h.low;omega,h.marks.mono (λ_ h=>.inl h) (λ_ _=>rfl)⟩
 ·rw[<-h.map b hb];have:b<e.m+j:=by omega
  simp[PMap.below,this]
 ·exact c4b h.rel dz
 ·intro b hb;rw[ak]at hb;simp only[PMap.below];split
  ·exact h.nrel b (by omega)
  ·rfl
 ·rcases c62 (e.m+j) H F s with h1|h1
  ·rw[h1];simp[VRel]
  ·rw[h1];simp only[d7d];cases hv:a36 (e.m+j) true (a3k (a02 H) (e.m+j) 12) (a35 F s)with
   |none=>simp[VRel]
   |some v'=>exact(b10 (h':=λ_=>none) h.rel hv (h.frm.2 s) (λ_ _ h=>by cases h)).2
theorem Now.drew(h:Now E e N F H I ρ a w):Now E e N F H I ρ a { w with drawn:=w.drawn+1 }:=by
 have s:SameMem w { w with drawn:=w.drawn+1 }:=⟨rfl,rfl,rfl,rfl⟩
 exact⟨h.imm,h.map,h.ext.trans h.imm (s.ext I e.K),h.rel.same s,h.nrel,FRel.mono h.frm (λv c hv=>VRel.mono (w:=w) (w':={ w with drawn:=w.drawn+1 }) (λ_ h=>h) (λ_ _=>rfl) v (λ_ _ h=>h) hv),h.low,h.marks⟩
end
/-! ### a loop that is counted -/
theorem c0m{ro:Option Nat}{P:Program}{c:Code}{Q:Exit->Act->World->Prop}(Inv:Nat->Act->World->Prop)
 (round:∀n a w,Inv (n+1) a w->c.wpIn (wf ro) 0 P (Exit.then (Inv n) Q) a w)(zero:∀a w,¬Inv 0 a w){n:Nat}{a:Act}{w:World}(h:Inv n a w):(Code.loop c).wpIn (wf ro) 0 P Q a w:=by
 have key:∀n a w,Inv n a w->Code.roundsIn (wf ro) 0 P c Q n a w:=by
  intro n
  induction n with
  |zero=>intro a w h;exact absurd h (zero a w)
  |succ n ih=>
   intro a w hI;rw[roundsIn_succ];refine wpIn_mono (round n a w hI) ?_;intro e a w hq;cases e with
   |normal=>exact ih a w hq
   |_=>exact hq
 exact wpIn_loop_rounds n (key n a w h)
end Go.Ax
/- AxLoc: what an operation looks at: the slots of its operands, the blocks that its operands name. -/
namespace Go.Ax
section
variable {E:Env}{n:Nat}{h h':FHeap}
theorem a80{x:AV}(k:Nat)(hh:∀b∈a0l x,h b=h' b):a2h h k x=a2h h' k x:=by cases x<;>simp only[a0l,f2x,forall_eq]at hh<;>simp only[a2h];rw[hh]
theorem c9b{x:AV}(t:TypeId)(hh:∀b∈a0l x,h b=h' b):c07 E h t x=c07 E h' t x:=by unfold c07;generalize E.und t=u;cases x<;>simp only[a0l,f2x,forall_eq]at hh<;>(rcases u with _|d;· rfl)<;>cases d<;>first|rfl|(simp only[hh];done)
theorem c4q{x:AV}(t:TypeId)(hh:∀b∈a0l x,h b=h' b):a6q E h t x=a6q E h' t x:=by cases x<;>simp only[a0l,f2x,forall_eq]at hh<;>simp only[a6q];rw[hh]
theorem c2p{p x:AV}(t:TypeId)(hh:∀b∈a0l p,h b=h' b):a89 E h t p x=a89 E h' t p x:=by cases p<;>simp only[a0l,f2x,forall_eq]at hh<;>simp only[a89];rw[hh]
theorem c2q{x:AV}(t:TypeId)(lo hi mx:Option AV)(hh:∀b∈a0l x,h b=h' b):a5z E h t x lo hi mx=a5z E h' t x lo hi mx:=by unfold a5z;generalize E.und t=u;cases x<;>simp only[a0l,f2x,forall_eq]at hh<;>(rcases u with _|d;· rfl)<;>cases d<;>first|rfl|(simp only[hh];done)
theorem b33{x:AV}(t:TypeId)(i:AV)(hh:∀b∈a0l x,h b=h' b):a15 E h t x i=a15 E h' t x i:=by unfold a15;generalize E.und t=u;cases x<;>simp only[a0l,f2x,forall_eq]at hh<;>(rcases u with _|d;· rfl)<;>cases d<;>first|rfl|(simp only[hh];done)
theorem c2v{x:AV}(hh:∀b∈a0l x,h b=h' b):b2x h x=b2x h' x:=by cases x<;>simp only[a0l,f2x,forall_eq]at hh<;>simp only[b2x];rw[hh]
theorem c06{x:AV}(t:TypeId)(k:AV)(ok:Bool)(hh:∀b∈a0l x,h b=h' b):a5e E h t x k ok=a5e E h' t x k ok:=by simp only[a5e,c2v hh]
theorem a96{x:AV}(t:TypeId)(k:AV)(hh:∀b∈a0l x,h b=h' b):a97 E h t x k=a97 E h' t x k:=by unfold a97;generalize E.und t=u;cases x<;>simp only[a0l,f2x,forall_eq]at hh<;>(rcases u with _|d;· rfl)<;>cases d<;>first|rfl|(simp only[hh];done)
theorem b2b{x:AV}(s v:AV)(hh:∀b∈a0l x,h b=h' b):a5f h x s v=a5f h' x s v:=by
 unfold a5f;split
 ·rw[hh _ (by simp[a0l])]
 ·rfl
theorem c0r{x:AV}(hh:∀b∈a0l x,h b=h' b):b6r h x=b6r h' x:=by cases x<;>simp only[a0l,f2x,forall_eq]at hh<;>simp only[b6r];rw[hh]
theorem c2x{x:AV}(t:TypeId)(k:AV)(ok:Bool)(hh:∀b∈a0l x,h b=h' b):b64 E h t x k ok=b64 E h' t x k ok:=by simp only[b64,c0r hh]
theorem b60{x:AV}(t:TypeId)(k v:AV)(hh:∀b∈a0l x,h b=h' b):b6l E h t x k v=b6l E h' t x k v:=by
 unfold b6l;split
 ·rw[hh _ (by simp[a0l])]
 ·rfl
theorem c4r{x:AV}(t:TypeId)(k:AV)(hh:∀b∈a0l x,h b=h' b):c9e E h t x k=c9e E h' t x k:=by
 unfold c9e;split
 ·rw[hh _ (by simp[a0l])]
 ·rfl
theorem c0b{x:AV}(hh:∀b∈a0l x,h b=h' b):b2c h x=b2c h' x:=by
 unfold b2c;split
 ·rw[hh _ (by simp[a0l])]
 ·rfl
theorem c4p{x:AV}(s:Bool)(hh:∀b∈a0l x,h b=h' b):c2u h x s=c2u h' x s:=by
 unfold c2u;split
 ·rw[hh _ (by simp[a0l])]
 ·rfl
theorem c2y{x:AV}(s d:TypeId)(hh:∀b∈a0l x,h b=h' b):a7i E h s d x=a7i E h' s d x:=by
 have key:=λk=>a80 k hh;unfold a7i;split
 ·rfl
 ·rw[key]
 ·rfl
theorem c0d{s x:AV}(st xt:TypeId)(hs:∀b∈a0l s,h b=h' b)(hx:∀b∈a0l x,h b=h' b):a52 E h n st xt s x=a52 E h' n st xt s x:=by cases s<;>simp only[a0l,f2x,forall_eq]at hs<;>simp only[a52,a80 _ hx];rw[hs]
theorem c4s{d x:AV}(dt:TypeId)(hs:∀b∈a0l d,h b=h' b)(hx:∀b∈a0l x,h b=h' b):c9f E h dt d x=c9f E h' dt d x:=by cases d<;>simp only[a0l,f2x,forall_eq]at hs<;>simp only[c9f,a80 _ hx];rw[hs]
theorem c2z{x:AV}(t:TypeId)(hh:∀b∈a0l x,h b=h' b):b8f E h t x=b8f E h' t x:=by unfold b8f;generalize E.und t=u;cases x<;>simp only[a0l,f2x,forall_eq]at hh<;>(rcases u with _|d;· rfl)<;>cases d<;>first|rfl|(simp only[hh];done)
theorem c9h(b:Builtin)(ts:List TypeId)(args:List AV)(hh:∀b∈args.flatMap a0l,h b=h' b):d8l E n h b ts args=d8l E n h' b ts args:=by
 unfold d8l;split
 ·rw[c9b _ (λb hb=>hh b (by simpa using hb))]
 ·rfl
 ·rw[c0d _ _ (λb hb=>hh b (by simp[hb])) (λb hb=>hh b (by simp[hb]))]
 ·rw[c4s _ (λb hb=>hh b (by simp[hb])) (λb hb=>hh b (by simp[hb]))]
 ·rw[c2z _ (λb hb=>hh b (by simpa using hb))]
 ·rw[c4r _ _ (λb hb=>hh b (by simp[hb]))]
 ·rfl
 ·rfl
 ·rfl
theorem d4a{op:Op}{v:Operand->AV}(hh:∀b∈a98 op v,h b=h' b):aop E n h op v=aop E n h' op v:=by
 cases op<;>simp only[a98]at hh<;>simp only[aop]
 case load=>rw[c4q _ hh]
 case store=>rw[c2p _ hh]
 case convert=>rw[c2y _ _ hh]
 case slice=>rw[c2q _ _ _ _ hh]
 case indexAddr=>rw[b33 _ _ hh]
 case lookup=>rw[c06 _ _ _ hh,c2x _ _ _ hh]
 case mapUpdate=>simp only[a21,a96 _ _ hh,b60 _ _ _ hh]
 case insert=>simp only[a21,a96 _ _ hh,b60 _ _ _ hh]
 case mapEntry=>simp only[b1d,a96 _ _ hh]
 case entryStore=>rw[b2b _ _ hh]
 case next=>rw[c4p _ hh]
 case entry=>rw[c0b hh]
 case call c=>
  obtain⟨callee,args,ts⟩:=c;cases callee with
  |builtin b=>simp only at hh⊢;exact c9h _ _ _ (by simpa[List.flatMap_map]using hh)
  |_=>rfl
theorem d4b{op:Op}{v v':Operand->AV}(hv:∀x∈op.operands,v x=v' x):aop E n h op v=aop E n h op v':=by
 have l5:∀ps:Array (Nat×Operand),(∀x∈(ps.toList.map (·.2)).toArray,v x=v' x)->(ps.toList.map λp=>(p.1,v p.2))=(ps.toList.map λp=>(p.1,v' p.2)):=λps hp=>f4y λp hm=>by rw[hp p.2 (by simp only[List.mem_toArray,f6q];exact⟨p,hm,rfl⟩)]
 cases op<;>simp only[Op.operands]at hv<;>simp only[aop]
 case build t ps=>rw[l5 ps hv]
 case buildSlice t n ps=>rw[l5 ps hv]
 case makeFunc fn first ie=>rw[f4y (l:=first.toList) λx hx=>hv x (by simp only[Array.mem_append];exact .inl (by simpa using hx)),f4y (l:=ie.toList) λx hx=>hv x (by simp only[Array.mem_append];exact .inr (by simpa using hx))]
 case call c=>
  obtain⟨callee,args,ts⟩:=c;cases callee with
  |builtin b=>simp only;rw[f4y (l:=args.toList) λx hx=>hv x (by simp only[Call.operands];simp;simpa using hx)]
  |_=>rfl
 case makeMap t r=>cases r<;>simp_all
 case slice t x lo hi mx=>cases lo<;>cases hi<;>cases mx<;>simp_all
 all_goals (first|rfl|(simp_all;done))
end
end Go.Ax
/- AxOrd: operations in any order that their edges allow: what the executed ones amount to, in text order. -/
namespace Go.Ax
/-! ### lists that grow at the front, numbered from the back -/
section
variable {R V:Type}
def nth:List R->Nat->Option R
 | [],_=>none
 |r::al,j=>if j=al.length then some r else nth al j
def pre:List R->Nat->List R
 | [],_=>[]
 |_::al,i=>if i=al.length then al else pre al i
theorem b4l:∀{l:List R} {i:Nat} {r:R},nth l i=some r->i<l.length
 | [],i,r,h=>by simp[nth]at h
 |a::al,i,r,h=>by
  unfold nth at h;split at h
  ·simp;omega
  ·have:=b4l h;simp;omega
theorem c5f:∀{l:List R} {i:Nat},i<l.length->∃r,nth l i=some r
 | [],i,h=>by simp at h
 |a::al,i,h=>by
  unfold nth;split
  ·exact⟨a,rfl⟩
  ·exact c5f (by simp at h;omega)
theorem b3a{a:R}{l:List R}{i:Nat}{r:R}(h:nth l i=some r):nth (a::l) i=some r:=by have:=b4l h;unfold nth;rw[f2m (by omega)];exact h
theorem b92(a:R)(l:List R):nth (a::l) l.length=some a:=by simp[nth]
def gL(o:R->Nat->Option V)(g0:Nat->V)(S:Nat->Bool):List R->Nat->V
 | []=>g0
 |r::al=>if S al.length then λs=>(o r s).getD (gL o g0 S al s)else gL o g0 S al
def a4m:Nat->Bool:=λ_=>true
def c1c(S:Nat->Bool)(i:Nat):Nat->Bool:=λj=>j==i||S j
variable {o:R->Nat->Option V}{g0:Nat->V}{S:Nat->Bool}
theorem c64{s:Nat}:∀{l:List R},(∀j r',nth l j=some r'->(o r' s).isSome->S j=true)->gL o g0 S l s=gL o g0 a4m l s
 | [],_=>rfl
 |a::al,h=>by
  have ih:=c64 (l:=al) (λj r' hj=>h j r' (b3a hj));simp only[gL,a4m];cases ha:o a s with
  |none=>split<;>simp[ha,ih]
  |some v=>rw[h _ a (b92 a al) (by simp[ha])];simp[ha]
theorem e26{i s:Nat}{r:R}:∀{l:List R},nth l i=some r->(∀j r',nth l j=some r'->(o r' s).isSome->(j<i->S j=true)∧(i<=j->S j=false))->
 gL o g0 S l s=gL o g0 a4m (pre l i) s
 | [],h,_=>by simp[nth]at h
 |a::al,h,hs=>by
  have mA:i<=al.length->gL o g0 S (a::al) s=gL o g0 S al s:=by
   intro hi;simp only[gL];split
   ·rename_i hS;cases ha:o a s with
    |none=>simp[ha]
    |some v=>rw[(hs _ a (b92 a al) (by simp[ha])).2 hi]at hS;cases hS
   ·rfl
  unfold nth at h;split at h
  ·rename_i hi;subst hi;rw[mA (f2q _)];simp only[pre,f7i];exact c64 (λj r' hj ho=>(hs j r' (b3a hj) ho).1 (b4l hj))
  ·rename_i hi;have:=b4l h;rw[mA (by omega)];simp only[pre,f2m hi];exact e26 h (λj r' hj ho=>hs j r' (b3a hj) ho)
theorem b9n{S':Nat->Bool}:∀{l:List R},(∀j,j<l.length->S j=S' j)->gL o g0 S l=gL o g0 S' l
 | [],_=>rfl
 |a::al,h=>by simp only[gL];rw[h al.length (by simp),b9n (l:=al) (λj hj=>h j (by simp;omega))]
theorem d31{i:Nat}{r:R}:∀{l:List R},nth l i=some r->S i=false->(∀k r',nth l k=some r'->i<k->S k=true->∀s,(o r s).isSome->o r' s=none)->
 gL o g0 (c1c S i) l=λs=>(o r s).getD (gL o g0 S l s)
 | [],h,_,_=>by simp[nth]at h
 |a::al,h,hS,hk=>by
  unfold nth at h;split at h
  ·rename_i hi;cases h;have:gL o g0 (c1c S i) al=gL o g0 S al:=b9n λj hj=>by simp[c1c];omega
   simp only[gL,this];subst hi;simp[c1c,hS]
  ·rename_i hi;have ai:=b4l h;have ih:=d31 h hS (λk r' hr=>hk k r' (b3a hr));simp only[gL,ih];have hp:c1c S i al.length=S al.length:=by simp[c1c];intro he;omega
   rw[hp];split
   ·rename_i iW
    funext s
    cases hr:o r s with
    |none=>simp
    |some v=>rw[hk _ a (b92 a al) ai iW s (by simp[hr])];simp
   ·rfl
end
/-! ### edges -/
def a81(all:List Oper)(S:Nat->Bool)(j:Nat):Prop:=∀o,all[j]?=some o->∀e∈o.after.toList,Region.binds .any e=true->S e.on=true
theorem b56{all:List Oper}{S:Nat->Bool}(hS:∀j,S j=true->a81 all S j)(i:Nat):∀n j,a81 all S j->b0x all i n j=true->S i=true
 |0,j,_,h=>by simp[b0x]at h
 |n+1,j,hj,h=>by
  unfold b0x at h;split at h
  ·rename_i o ho;simp only[List.any_eq_true,f1d,f8w,f7u]at h;obtain⟨e,he,hb,h⟩:=h;have om:=hj o ho e he hb;rcases h with rfl|h
   ·exact om
   ·exact b56 hS i n e.on (hS _ om) h
  ·cases h
theorem b7d{all:List Oper}{S:Nat->Bool}(hS:∀j,S j=true->a81 all S j){i j:Nat}(hj:a81 all S j)(h:a6k all i j=true):S i=true:=by
 unfold a6k at h;rw[f8w]at h;rcases h with h|h
 ·unfold d9l at h;split at h
  ·rename_i o ho;simp only[List.any_eq_true,f1d,f7u]at h;obtain⟨e,he,hb,rfl⟩:=h;exact hj o ho e he hb
  ·cases h
 ·exact b56 hS i _ j hj h
theorem c1n{all:List Oper}{j:Nat}{y:LogE}:∀{l:List LogE},logOk.logRow all j y l.length l=true->∀i x,nth l i=some x->x.clash y=true->a6k all i j=true
 | [],_,i,x,h,_=>by simp[nth]at h
 |a::al,hl,i,x,h,hc=>by
  simp only[f1c,logOk.logRow,f1d,f8w,f6z]at hl;unfold nth at h;split at h
  ·rename_i hi;cases h;subst hi;rcases hl.1 with h'|h'
   ·rw[hc]at h';cases h'
   ·exact h'
  ·exact c1n hl.2 i x h hc
theorem b3g{all:List Oper}:∀{l:List LogE},logOk all l.length l=true->∀i j x y,i<j->nth l i=some x->nth l j=some y->x.clash y=true->a6k all i j=true
 | [],_,i,j,x,y,_,h,_,_=>by simp[nth]at h
 |a::al,hl,i,j,x,y,bq,hi,hj,hc=>by
  simp only[f1c,logOk,f1d]at hl;unfold nth at hj;split at hj
  ·rename_i tE;cases hj;subst tE;unfold nth at hi;rw[f2m (by omega)]at hi;exact c1n hl.1 i x hi hc
  ·have:=b4l hj;unfold nth at hi;rw[f2m (by omega)]at hi;exact b3g hl.2 i j x y bq hi hj hc
/-! ### what is asked of a region's text -/
def b2e(l:List Operand):List Nat:=l.filterMap λ|.tmp t=>some t|_=>none
def looks(all:List Oper)(o:Oper):List Nat:=
 b2e o.op.operands.toList++(match o.guard with
  |some (g,_)=>(a3d all g).toList
  |none=>[])
def a6f(all:List Oper)(x y:Oper):Bool:=
 (match x.dst with|some d=>(looks all y).contains d|none=>false) ||
 (match y.dst with|some d=>(looks all x).contains d|none=>false) ||
 (match x.dst,y.dst with|some d,some d'=>d==d'|_,_=>false)
def b5o(all:List Oper)(j:Nat)(y:Oper):Nat->List Oper->Bool
 |_,[]=>true
 |i,x::r=>(Nat.ble j i || !(a6f all x y)||a6k all i j)&&b5o all j y (i+1) r
def b16(all:List Oper):Nat->List Oper->Bool
 |_,[]=>true
 |j,y::r=>y.after.toList.all (λe=>!(Region.binds .any e)||Nat.blt e.on j)&&b5o all j y 0 all&&b16 all (j+1) r
def c6e(all:List Oper):Bool:=b16 all 0 all
theorem b83{all:List Oper}{j:Nat}{y:Oper}:∀{l:List Oper} {s:Nat},b5o all j y s l=true->∀i x,l[i]?=some x->s+i<j->a6f all x y=true->a6k all (s+i) j=true
 | [],s,_,i,x,h,_,_=>by simp at h
 |a::r,s,hl,0,x,h,bq,hm=>by
  simp only[b5o,f1d,f8w,f6z,f7k]at hl;simp only[f4z,Option.some.injEq]at h;subst h;rcases hl.1 with (h|h)|h
  ·omega
  ·rw[hm]at h;cases h
  ·exact h
 |a::r,s,hl,i+1,x,h,bq,hm=>by simp only[b5o,f1d]at hl;have:=b83 hl.2 i x (by simpa using h) (by omega) hm;rw[show s+(i+1)=s+1+i by omega];exact this
theorem b5n{all:List Oper}:∀{l:List Oper} {s:Nat},b16 all s l=true->∀j y,l[j]?=some y->
 (∀e∈y.after.toList,Region.binds .any e=true->e.on<s+j)∧∀i x,all[i]?=some x->i<s+j->a6f all x y=true->a6k all i (s+j)=true
 | [],s,_,j,y,h=>by simp at h
 |a::r,s,hl,0,y,h=>by simp only[b16,f1d,f4l,f8w,f6z,f4o]at hl;simp only[f4z,Option.some.injEq]at h;subst h;refine⟨λe he hb=>(hl.1.1 e he).resolve_left (by simp[hb]),λi x hx hi hm=>?_⟩;have:=b83 hl.1.2 i x hx (by omega) hm;simpa using this
 |a::r,s,hl,j+1,y,h=>by simp only[b16,f1d]at hl;have:=b5n hl.2 j y (by simpa using h);rw[show s+(j+1)=s+1+j by omega];exact this
theorem b17{all:List Oper}(h:c6e all=true){j:Nat}{y:Oper}(hy:all[j]?=some y) :
 (∀e∈y.after.toList,Region.binds .any e=true->e.on<j)∧∀i x,all[i]?=some x->i<j->a6f all x y=true->a6k all i j=true:=by
 have:=b5n h j y hy;simpa using this
end Go.Ax
/- AxDraw: a region that draws its order: one run in text order stands for a4m order. -/
namespace Go.Ax
theorem d49{E:Env}{n n':Nat}{h:FHeap}{op:Op}{v:Operand->AV}{x:AV}{e:Eff}(ha:aop E n h op v=some (x,e))(he:e.fresh=false):aop E n' h op v=some (x,e):=by
 have app:∀st xt s y,a52 E h n st xt s y=some (x,e)->a52 E h n' st xt s y=some (x,e):=by
  intro st xt s y hy;unfold a52 at hy⊢;simp only[cond_eq_ite]at hy⊢
  repeat' split at hy
  all_goals first
   |(cases hy;done)
   |(cases hy;simp[Eff.fresh]at he;done)
   |(simp_all;done)
   |(simp_all;rename_i hh;exact hh.2)
 have sT:∀st xt s y,a39 E n st xt s y=some (x,e)->a39 E n' st xt s y=some (x,e):=by
  intro st xt s y hy;unfold a39 at hy⊢;simp only[cond_eq_ite]at hy⊢
  repeat' split at hy
  all_goals first
   |(cases hy;done)
   |(cases hy;simp[Eff.fresh]at he;done)
   |(simp_all;done)
 have blt:∀b ts args,d8l E n h b ts args=some (x,e)->d8l E n' h b ts args=some (x,e):=by
  intro b ts args hb;unfold d8l at hb⊢;split at hb
  all_goals first
   |exact hb
   |exact app _ _ _ _ hb
   |(rcases b0b hb with hb|hb<;>first|(rw[app _ _ _ _ hb];rfl)|(rw[c4u hb n' h,sT _ _ _ _ hb];rfl))
 cases op
 case alloc t=>
  simp only[aop,e37,cond_eq_ite]at ha
  repeat' split at ha
  all_goals cases ha
  simp[Eff.fresh]at he
 case box t y=>
  simp only[aop,e3j,cond_eq_ite]at ha
  repeat' split at ha
  all_goals cases ha
  all_goals simp[Eff.fresh]at he
 case buildSlice=>
  simp only[aop,a3u,cond_eq_ite]at ha
  repeat' split at ha
  all_goals cases ha
  all_goals simp[Eff.fresh]at he
 case makeMap=>
  simp only[aop]at ha
  repeat' split at ha
  all_goals cases ha
  all_goals simp[Eff.fresh]at he
 case makeSlice=>
  simp only[aop,a4l,cond_eq_ite]at ha
  repeat' split at ha
  all_goals cases ha
  all_goals simp[Eff.fresh]at he
 case range=>
  simp only[aop]at ha;rcases b0b ha with ha|ha
  ·simp only[c6u]at ha
   repeat' split at ha
   all_goals cases ha
   all_goals simp[Eff.fresh]at he
  ·simp only[c04,cond_eq_ite]at ha
   repeat' split at ha
   all_goals cases ha
   all_goals simp[Eff.fresh]at he
 case call c=>
  obtain⟨callee,args,ts⟩:=c;cases callee with
  |builtin b=>exact blt _ _ _ ha
  |_=>cases ha
 all_goals exact ha
structure Rec where
 dst:Option Nat
 v:AV
 ov:Nat->Option (Option AObj)
 fresh:Nat
 log:LogE
def fov(r:Rec)(s:Nat):Option AV:=if r.dst=some s then some r.v else none
def hov(r:Rec)(b:Nat):Option (Option AObj):=r.ov b
def cnt(m0:Nat):List Rec->Nat
 | []=>m0
 |r::al=>cnt m0 al+r.fresh
def c8c(m0:Nat)(S:Nat->Bool):List Rec->Nat->Prop
 | [],_=>False
 |r::al,b=>(S al.length=true∧cnt m0 al<=b∧b<cnt m0 al+r.fresh)∨c8c m0 S al b
theorem c41{m0:Nat}{S:Nat->Bool}:∀{l:List Rec} {b:Nat},c8c m0 S l b->b<cnt m0 l
 | [],b,h=>h.elim
 |r::al,b,h=>by
  simp only[cnt];rcases h with ⟨_,_,h⟩|h
  ·exact h
  ·have:=c41 h;omega
theorem d3p{m0:Nat}{i:Nat}{r:Rec}:∀{l:List Rec},nth l i=some r->cnt m0 (pre l i)+r.fresh<=cnt m0 l
 | [],h=>by simp[nth]at h
 |a::al,h=>by
  unfold nth at h;simp only[pre,cnt];split at h
  ·rename_i hi;cases h;rw[f2w hi];omega
  ·rename_i hi;have:=d3p (m0:=m0) h;rw[f2m hi];omega
theorem d1x{m0:Nat}{S:Nat->Bool}{i:Nat}{r:Rec}{b:Nat}:∀{l:List Rec},nth l i=some r->cnt m0 (pre l i)<=b->b<cnt m0 (pre l i)+r.fresh->c8c m0 S l b->S i=true
 | [],h,_,_,_=>by simp[nth]at h
 |a::al,h,h1,h2,hm=>by
  unfold nth at h;split at h
  ·rename_i hi;cases h;simp only[pre,f2w hi]at h1 h2;rcases hm with ⟨hS,_⟩|hm
   ·rw[hi];exact hS
   ·have:=c41 hm;omega
  ·rename_i hi;simp only[pre,f2m hi]at h1 h2;have:=d3p (m0:=m0) h;rcases hm with ⟨_,tI,_⟩|hm
   ·omega
   ·exact d1x h h1 h2 hm
theorem c1l{m0:Nat}{S:Nat->Bool}{i:Nat}{r:Rec}{b:Nat}:∀{l:List Rec},nth l i=some r->(c8c m0 S l b∨(cnt m0 (pre l i)<=b∧b<cnt m0 (pre l i)+r.fresh))->c8c m0 (c1c S i) l b
 | [],h,_=>by simp[nth]at h
 |a::al,h,hb=>by
  have mono:∀{l:List Rec},c8c m0 S l b->c8c m0 (c1c S i) l b:=by
   intro l
   induction l with
   |nil=>exact λh=>h
   |cons a al ih=>exact λh=>h.imp (λ⟨h1,h2⟩=>⟨by simp[c1c,h1],h2⟩) ih
  unfold nth at h;rcases hb with hb|⟨cO,em⟩
  ·exact mono hb
  ·split at h
   ·rename_i hi;cases h;simp only[pre,f2w hi]at cO em;exact .inl ⟨by simp[c1c,hi],cO,em⟩
   ·rename_i hi;simp only[pre,f2m hi]at cO em;exact .inr (c1l h (.inr ⟨cO,em⟩))
structure DNow(E:Env)(e:Entry)(N m0:Nat)(C:Nat->Prop)(f:Nat->AV)(h:FHeap)(I:Nat->Prop)(ρ:PMap)(a:Act)(w:World):Prop where
 imm:∀c,e.I c->I c
 map:∀b,b<e.m->ρ b=e.ρ b
 ext:Ext e.I e.K e.w w
 rel:HRel E.G I e.K ρ h w
 nrel:∀b,m0<=b->¬C b->ρ b=none
 fin:∃M,NRel ρ M
 size:a.tmps.size=N
 frm:∀s,VRel I w ρ (f s) (a.tmps.getD s undef)
 marks:Marks e I w a.defers
def opvf(E:Env)(f:Nat->AV):Operand->AV
 |.tmp t=>f t
 |.const v=>c6j v
 |.global g=>match E.G g with|some cs=>.iptr cs|none=>.junk
 |.func f=>.func (.func f) [] []
section
variable {E:Env}{e:Entry}{N m0:Nat}{C:Nat->Prop}{f:Nat->AV}{h:FHeap}{I:Nat->Prop}{ρ:PMap}{a:Act}{w:World}
theorem DNow.opvf(d:DNow E e N m0 C f h I ρ a w)(x:Operand):VRel I w ρ (opvf E f x) (a.eval x):=by
 cases x with
 |tmp t=>exact d.frm t
 |const v=>exact c2h v
 |global g=>
  simp only[Ax.opvf,Act.eval];cases hg:E.G g with
  |none=>simp[VRel]
  |some cs=>obtain⟨h1,h2⟩:=d.rel.glob g cs hg;simp only[VRel];exact⟨g,0,rfl,h1,h2⟩
 |func f=>simp only[Ax.opvf,Act.eval,VRel];exact⟨#[],#[],rfl,by simp[VRels],by simp[VRels]⟩
theorem c8b{t:Nat}{l:List Operand}(h:Operand.tmp t∈l):t∈b2e l:=by simp only[b2e,List.mem_filterMap];exact⟨_,h,rfl⟩
theorem b4k{F:Frm}{l:List Operand}(hf:∀s∈b2e l,f s=a35 F s):∀x∈l,opv E F x=opvf E f x:=by
 intro x hx;cases x with
 |tmp t=>exact(hf t (c8b hx)).symm
 |_=>rfl
theorem b1p{I':Nat->Prop}{w':World}{ρ':PMap}(hv:∀(v:AV) (c:Value),VRel I w ρ v c->VRel I' w' ρ' v c)(cj:a.tmps.size=N)(hf:∀s,VRel I w ρ (f s) (a.tmps.getD s undef)){d:Option Nat}
 (hd:a7f N d=true){v:AV}{c:Value}(hc:VRel I' w' ρ' v c):∀s,VRel I' w' ρ' ((if d=some s then some v else none).getD (f s)) ((a.put d c).tmps.getD s undef):=by
 intro s;cases d with
 |none=>simpa[Act.put]using hv _ _ (hf s)
 |some d=>
  have ai:d<N:=by simpa[a7f,f4o]using hd
  simp only[Act.put,f4u,f5a,cj,Option.some.injEq];split
  ·subst s;simpa[ai]using hc
  ·have:=hv _ _ (hf s);simpa[f4u]using this
theorem a9j{d:Option Nat}{c:Value}:(a.put d c).tmps.size=a.tmps.size:=by cases d<;>simp[Act.put]
def c9k(n:Nat):Eff->Nat->Option (Option AObj)
 |.none,_=>none
 |.new o,b=>if b=n then some (some o)else none
 |.set b0 o,b=>if b=b0 then some (some o)else none
 |.kill b0 o,b=>if b=n then some (some o)else if b=b0 then some none else none
theorem e7d(h:FHeap)(n:Nat)(e:Eff):h.eff n e=λb=>(c9k n e b).getD (h b):=by
 funext b
 cases e<;>simp only[FHeap.eff,FHeap.set,c9k]
 ·rfl
 ·split<;>rfl
 ·split<;>rfl
 ·split
  ·rfl
  ·split<;>rfl
theorem e2j{H:a03}{e:Eff}(hf:e.fits H.length=true):a02 (b25 H e)=λb=>(c9k H.length e b).getD (a02 H b):=by
 funext b
 cases e with
 |none=>rfl
 |new o=>
  simp only[b25,a02,c9k];split
  ·subst b;simp
  ·rcases f6u b H.length with h1|h1
   ·rw[f2l h1];rfl
   ·rw[f2s (by simp;omega),f2s (by omega)];rfl
 |set b1 o=>
  have cO:b1<H.length:=by simpa[Eff.fits,f4o]using hf
  simp only[b25,a02,c9k,f3a];split
  ·subst b;simp[cO]
  ·rename_i aw;rw[f2m (λe=>aw e.symm)];rfl
 |kill b1 o=>
  have cO:b1<H.length:=by simpa[Eff.fits,f4o]using hf
  simp only[b25,a02,c9k];split
  ·subst b;rw[f2r (by simp)];simp
  ·rcases f6u b H.length with h1|h1
   ·rw[f2l (by simpa using h1),f3a];split
    ·rename_i aw;subst aw;simp[cO]
    ·rename_i aw ju;rw[f2m (λe=>ju e.symm)];rfl
   ·rw[f2s (by simp;omega),f2m (by omega),f2s h1];rfl
theorem d1a{n b:Nat}{e:Eff}(h:(c9k n e b).isSome=true):b∈e.keys n:=by
 cases e<;>simp only[c9k]at h
 ·simp at h
 ·split at h
  ·subst b;simp[Eff.keys]
  ·simp at h
 ·split at h
  ·subst b;simp[Eff.keys]
  ·simp at h
 ·split at h
  ·subst b;simp[Eff.keys]
  ·split at h
   ·subst b;simp[Eff.keys]
   ·simp at h
end
end Go.Ax
/- AxDraw2: one operation of a region that draws its order. -/
namespace Go.Ax
section
variable {E:Env}{e:Entry}{N m0:Nat}
theorem b2g{hp ik:FHeap}{σ:List Nat}(h:∀b∈σ,hp b=ik b):a6e hp σ=a6e ik σ:=by unfold a6e;exact f4y λb hb=>by rw[h b hb]
def c0e(E:Env)(ro:Option Nat)(e:Entry)(N m0 n:Nat)(o:Oper)(fp:Nat->AV)(hp:FHeap)(v:AV)(ov:Nat->Option (Option AObj))(fresh:Nat)(l:LogE):Prop:=
 ∀{C:Nat->Prop} {f:Nat->AV} {h:FHeap} {I:Nat->Prop} {ρ:PMap} {a:Act} {w:World},DNow E e N m0 C f h I ρ a w->(∀s∈b2e o.op.operands.toList,f s=fp s)->(∀b∈l.needs,h b=hp b)->(∀b,n<=b->b<n+fresh->¬C b)->
  ∀{K:Act->World->Prop} {Q:Exit->Act->World->Prop},(∀I' ρ' a' w',DNow E e N m0 (λb=>C b∨(n<=b∧b<n+fresh)) (λs=>((if o.dst=some s then some v else none).getD (f s))) (λb=>(ov b).getD (h b)) I' ρ' a' w'->K a' w')->
   o.wpIn (wf ro) 0 E.P a w K Q
def Eff.nf(e:Eff):Nat:=if e.fresh=true then 1 else 0
theorem d8b(ok:EnvOk E){ro:Option Nat}{F:Frm}{H:a03}{o:Oper}{v:AV}{eff:Eff}(dz:e.m<=m0)(bD:m0<=H.length)(hd:a7f N o.dst=true)(ha:aop E H.length (a02 H) o.op (opv E F)=some (v,eff)) :
 c0e E ro e N m0 H.length o (a35 F) (a02 H) v (c9k H.length eff) eff.nf ⟨a98 o.op (opv E F),eff.keys H.length⟩:=by
 intro C f h I ρ a w aj hf hh hC K Q hK;have eC:=b4k (E:=E) hf;have pj:∀x∈o.op.operands,opv E F x=opvf E f x:=λx hx=>eC x (by simpa using hx);have mL:aop E H.length h o.op (opvf E f)=some (v,eff):=by rw[<-d4b pj,d4a (h':=a02 H) hh];exact ha
 obtain⟨M,hM⟩:=aj.fin;obtain⟨n',cC,hρ',nK⟩:∃n',(eff.fresh=true->n'=H.length)∧ρ n'=none∧aop E n' h o.op (opvf E f)=some (v,eff):=by
  cases dS:eff.fresh with
  |true=>exact⟨H.length,λ_=>rfl,aj.nrel _ bD (hC _ (f2q _) (by simp[Eff.nf,dS])),mL⟩
  |false=>exact⟨M,(by simp),hM _ (f2q _),d49 mL dS⟩
 have eb:h n'=none:=by
  cases hx:h n' with
  |none=>rfl
  |some ob=>obtain⟨m,h1,_⟩:=aj.rel.live _ _ hx;rw[hρ']at h1;cases h1
 obtain⟨x,w',c,ρ',ae,hx,step,hv,hm⟩:=d9s ok aj.rel eb hρ' nK aj.opvf;have hov:h.eff n' eff=λb=>(c9k H.length eff b).getD (h b):=by
  rw[e7d];cases dS:eff.fresh with
  |true=>rw[cC dS]
  |false=>cases eff<;>simp[Eff.fresh]at dS<;>rfl
 have iK:∀b,(eff.fresh=true->b≠H.length)->ρ' b=ρ b:=by
  intro b hb;cases dS:eff.fresh with
  |true=>exact hm.1 b (by rw[cC dS];exact hb dS)
  |false=>rw[hm.2 dS]
 have aX:DNow E e N m0 (λb=>C b∨(H.length<=b∧b<H.length+eff.nf)) (λs=>((if o.dst=some s then some v else none).getD (f s))) (λb=>(c9k H.length eff b).getD (h b)) I ρ' (a.put o.dst c) w':=by
  refine⟨aj.imm,λb hb=>?_,aj.ext.trans aj.imm step.ext,hov▸step.rel,λb hb hc=>?_,⟨max M (H.length+1),λb hb=>?_⟩,by rw[a9j];exact aj.size,?_,by rw[a3f];exact aj.marks.mono (λ_ h=>h) (λc hc=>step.ext.keep c (.inl hc))⟩
  ·rw[iK b (λ_=>by omega)];exact aj.map b hb
  ·rw[iK b (λhf he=>hc (.inr (by simp only[Eff.nf,hf,f7i];omega)))];exact aj.nrel b hb (λh=>hc (.inl h))
  ·rw[iK b (λ_=>by omega)];exact hM b (by omega)
  ·exact b1p (λv c hv=>step.vrel hv) aj.size aj.frm hd hv
 refine a8i (b63 ha) ?_;rw[ae];rcases hx with rfl|⟨rfl,rfl⟩
 ·rw[Oper.uponIn_value];exact hK I ρ' _ _ aX
 ·rw[Oper.uponIn_skip];exact hK I ρ' _ _ aX
theorem d3v{g:FuncId}{run:List AV->a03->Option (AV×a03)}(ae:a9a E g run){args:List AV}{H H':a03}{v:AV}{σ:List Nat}
 (af:a2v run args H=some (v,H',σ))(ak:H'.length=H.length) :
 ∃ov:Nat->Option (Option AObj),(a02 H'=λb=>(ov b).getD (a02 H b))∧(∀b,(ov b).isSome=true->b∈σ)∧
  ∀{I K:Nat->Prop} {ρ:PMap} {h:FHeap} {w:World} {an:List Value},HRel E.G I K ρ h w->(∀b∈σ,h b=a02 H b)->VRels I w ρ args an->
   XOf E g an w λen w'=>∃c I',en = .returned c∧(∀c,I c->I' c)∧Ext I K w w'∧HRel E.G I' K ρ (λb=>(ov b).getD (h b)) w'∧VRel I' w' ρ v c:=by
 unfold a2v at af;simp only at af;generalize hσ:a24 H a3o (a0d args) []=σ' at af;rw[cond_eq_ite]at af;split at af
 case isFalse=>cases af
 rename_i hc;simp only[f1d,f4l,f4o]at hc;obtain⟨bn,ai⟩:=hc;have bn:=a9l bn;split at af
 case h_2=>cases af
 rename_i v1 H1 hr;simp only[Option.some.injEq,Prod.mk.injEq]at af;obtain⟨rfl,rfl,rfl⟩:=af;have kd:run (args.map (ren (a78 σ'))) (a6e (a02 H) σ')=some (v1,H1):=hr;have nU:H1.length<=σ'.length:=by simp only[f2n,a1f,c10,List.length_drop]at ak;omega
 refine⟨λb=>(σ'.idxOf? b).map λj=>(a02 H1 j).map (a0g (a1d σ' H.length)),?_,?_,?_⟩
 ·funext b
  simp only[a02];rcases f6u b H.length with hb|hb
  ·rw[f2l (by rw[a1f];exact hb),a7q];simp only[f2u];rw[z9e hb];cases hx:σ'.idxOf? b<;>simp[a02]
  ·rw[f2s (by simp only[f2n,a1f,c10,List.length_drop];omega),f2s hb];cases hx:σ'.idxOf? b with
   |none=>rfl
   |some j=>have:=ai b (c11 (a2n hx));omega
 ·intro b hb;dsimp only at hb;cases hx:σ'.idxOf? b with
  |none=>rw[hx]at hb;simp at hb
  |some j=>exact c11 (a2n hx)
 ·intro I K ρ h w an rel hh ha;have iH:run (args.map (ren (a78 σ'))) (a6e h σ')=some (v1,H1):=by rw[b2g hh];exact kd
  refine XOf.mono (c00 ae iH rel bn ha) ?_
  rintro en w' ⟨c,I1,ρ1,rfl,aE,hv⟩
  have cN:∀j b m,a1d σ' H.length j=some b->ρ1 j=some m->ρ b=some m:=by
   intro j b m hj hm;rcases f6u j σ'.length with bg|bg
   ·simp only[a1d]at hj;rw[cond_eq_ite,f2w (by simpa[f4o]using bg)]at hj;have:=aE.map j bg;rw[hm,hj]at this;exact this.symm
   ·rw[aE.nrel j (by omega)]at hm;cases hm
  refine⟨c,I1,rfl,aE.imm,aE.ext.keepLess (λc hc=>.inl hc),?_,VRel.ren cN v1 hv⟩;refine c01 rel bn aE (λ_ _ h=>h) cN (λb m hb=>.inl hb) ?_;intro b o hb;dsimp only at hb;cases hx:σ'.idxOf? b with
  |none=>rw[hx]at hb;exact .inl ⟨b1w hx,hb⟩
  |some j=>rw[hx]at hb;simp only[f2k,f4v]at hb;obtain⟨o1,eE,rfl⟩:=a08 hb;have hσj:=a2n hx;refine .inr ⟨j,o1,?_,eE,rfl⟩;simp only[a1d];rw[cond_eq_ite,f2w (by simpa[f4o]using(f1i.1 hσj).1)];exact hσj
theorem d82{g:FuncId}{run:List AV->a03->Option (AV×a03)}(ae:a9a E g run){args:List AV}{H H':a03}{v:AV}{σ:List Nat}
 (af:a2v run args H=some (v,H',σ)){q:Nat}(ak:H'.length=H.length+q) :
 ∃ov:Nat->Option (Option AObj),(a02 H'=λb=>(ov b).getD (a02 H b))∧(∀b,(ov b).isSome=true->b∈σ++List.range' H.length q)∧
  ∀{I K:Nat->Prop} {ρ:PMap} {h:FHeap} {w:World} {an:List Value},HRel E.G I K ρ h w->(∀b,H.length<=b->b<H.length+q->ρ b=none)->(∀b∈σ,h b=a02 H b)->VRels I w ρ args an->
   XOf E g an w λen w'=>∃c I' ρ',en = .returned c∧(∀c,I c->I' c)∧Ext I K w w'∧(∀b,¬(H.length<=b∧b<H.length+q)->ρ' b=ρ b)∧HRel E.G I' K ρ' (λb=>(ov b).getD (h b)) w'∧VRel I' w' ρ' v c:=by
 unfold a2v at af;simp only at af;generalize hσ:a24 H a3o (a0d args) []=σ' at af;rw[cond_eq_ite]at af;split at af
 case isFalse=>cases af
 rename_i hc;simp only[f1d,f4l,f4o]at hc;obtain⟨bn,ai⟩:=hc;have bn:=a9l bn;split at af
 case h_2=>cases af
 rename_i v1 H1 hr;simp only[Option.some.injEq,Prod.mk.injEq]at af;obtain⟨rfl,rfl,rfl⟩:=af;have kd:run (args.map (ren (a78 σ'))) (a6e (a02 H) σ')=some (v1,H1):=hr;have nU:H1.length-σ'.length=q:=by simp only[f2n,a1f,c10,List.length_drop]at ak;omega
 refine⟨λb=>if H.length<=b∧b<H.length+q then some ((a02 H1 (σ'.length+(b-H.length))).map (a0g (a1d σ' H.length)))else(σ'.idxOf? b).map λj=>(a02 H1 j).map (a0g (a1d σ' H.length)),?_,?_,?_⟩
 ·funext b
  simp only[a02];rcases f6u b H.length with hb|hb
  ·rw[f2l (by rw[a1f];exact hb),a7q,f2m (by omega)];simp only[f2u];rw[z9e hb];cases hx:σ'.idxOf? b<;>simp[a02]
  ·rw[f2r (by rw[a1f];exact hb),a1f,f1l,List.getElem?_drop];by_cases he:b<H.length+q
   ·rw[f2w ⟨hb,he⟩];cases hx:H1[σ'.length+(b-H.length)]? with
    |none=>simp[hx]
    |some ob=>simp[hx]
   ·rw[f2m (by omega),f2s (by omega),f2s hb];cases hx:σ'.idxOf? b with
    |none=>rfl
    |some j=>have:=ai b (c11 (a2n hx));omega
 ·intro b hb;dsimp only at hb;by_cases he:H.length<=b∧b<H.length+q
  ·exact List.mem_append_right _ (by rw[List.mem_range'_1];exact he)
  ·rw[f2m he]at hb;cases hx:σ'.idxOf? b with
   |none=>rw[hx]at hb;simp at hb
   |some j=>exact List.mem_append_left _ (c11 (a2n hx))
 ·intro I K ρ h w an rel hn hh ha;have iH:run (args.map (ren (a78 σ'))) (a6e h σ')=some (v1,H1):=by rw[b2g hh];exact kd
  refine XOf.mono (c00 ae iH rel bn ha) ?_
  rintro en w' ⟨c,I1,ρ1,rfl,aE,hv⟩
  have dz:=aE.low;have cN:∀j b m,a1d σ' H.length j=some b->ρ1 j=some m->(if H.length<=b∧b<H.length+q then ρ1 (σ'.length+(b-H.length))else ρ b)=some m:=by
   intro j b m hj hm;simp only[a1d]at hj;rw[cond_eq_ite]at hj;split at hj
   ·rename_i bg;have bg:j<σ'.length:=by simpa[f4o]using bg
    have hb:=ai b (c11 hj);rw[f2m (by omega)];have:=aE.map j bg;rw[hm,hj]at this;exact this.symm
   ·rename_i bg;have bg:σ'.length<=j:=by simpa[f4o]using bg
    cases hj;by_cases he:j-σ'.length<q
    ·rw[f2w (by omega),show σ'.length+(H.length+(j-σ'.length)-H.length)=j by omega];exact hm
    ·rw[aE.nrel j (by omega)]at hm;cases hm
  have aG:∀b m,ρ b=some m->(if H.length<=b∧b<H.length+q then ρ1 (σ'.length+(b-H.length))else ρ b)=some m:=by intro b m hb;rw[f2m (λe=>by rw[hn b e.1 e.2]at hb;cases hb)];exact hb
  refine⟨c,I1,λb=>if H.length<=b∧b<H.length+q then ρ1 (σ'.length+(b-H.length))else ρ b,rfl,aE.imm,aE.ext.keepLess (λc hc=>.inl hc),λb hb=>f2m hb,?_,VRel.ren cN v1 hv⟩;refine c01 rel bn aE aG cN ?_ ?_
  ·intro b m hb;split at hb
   ·exact .inr ⟨_,hb⟩
   ·exact .inl hb
  intro b o hb;dsimp only at hb;by_cases he:H.length<=b∧b<H.length+q
  ·rw[f2w he,f4v]at hb;obtain⟨o1,eE,rfl⟩:=a08 hb;refine .inr ⟨σ'.length+(b-H.length),o1,?_,eE,rfl⟩;simp only[a1d];rw[cond_eq_ite,f2m (by simp[f4o])]
   congr 1;omega
  rw[f2m he]at hb;cases hx:σ'.idxOf? b with
  |none=>rw[hx]at hb;exact .inl ⟨b1w hx,hb⟩
  |some j=>rw[hx]at hb;simp only[f2k,f4v]at hb;obtain⟨o1,eE,rfl⟩:=a08 hb;have hσj:=a2n hx;refine .inr ⟨j,o1,?_,eE,rfl⟩;simp only[a1d];rw[cond_eq_ite,f2w (by simpa[f4o]using(f1i.1 hσj).1)];exact hσj
theorem d0d(ok:EnvOk E){ro:Option Nat}{call:FuncId->List AV->a03->Option (AV×a03)}(af:a45 E call){F:Frm}{H H':a03}{o:Oper}{v:AV}{l:LogE}(dz:e.m<=m0)(bD:m0<=H.length)
 (hs:a10 E true call F H o.op=some (v,H',l))(hd:a7f N o.dst=true) :
 ∃ov fresh,(a02 H'=λb=>(ov b).getD (a02 H b))∧H'.length=H.length+fresh∧(∀b,(ov b).isSome=true->b∈l.keys)∧c0e E ro e N m0 H.length o (a35 F) (a02 H) v ov fresh l:=by
 unfold a10 at hs;split at hs
 ·rename_i f args qp eD;split at hs
  case h_2=>cases hs
  rename_i v' H1 σ aZ;cases hs
  -- what is called,in whatever state
  have tail:∀(g:FuncId) (as:List AV),a2v (call g) as H=some (v,H',σ)->(H.length<=H'.length)->(a75 E (opv E F f) H H' σ=true->∀b∈σ,a02 H b=a02 H' b)->
   (∀{C:Nat->Prop} {f':Nat->AV} {h:FHeap} {I:Nat->Prop} {ρ:PMap} {a:Act} {w:World},DNow E e N m0 C f' h I ρ a w->(∀s∈b2e o.op.operands.toList,f' s=a35 F s)->
    ∃an,VRels I w ρ as an∧∀{R:Ending->World->Prop},XOf E g an w R->∀{K:Act->World->Prop} {Q:Exit->Act->World->Prop},(∀en w',R en w'->∃c,en = .returned c∧K (a.put o.dst c) w')->o.wpIn (wf ro) 0 E.P a w K Q)->
   ∃ov fresh,(a02 H'=λb=>(ov b).getD (a02 H b))∧H'.length=H.length+fresh∧(∀b,(ov b).isSome=true->b∈b6d (a75 E (opv E F f) H H' σ) σ H.length H'.length)∧
    c0e E ro e N m0 H.length o (a35 F) (a02 H) v ov fresh ⟨σ,b6d (a75 E (opv E F f) H H' σ) σ H.length H'.length⟩:=by
   intro g as eS ak rp T;by_cases aX:H'.length≠H.length
   ·have hq:H'.length=H.length+(H'.length-H.length):=by omega
    generalize H'.length-H.length=q at hq;have hk:b6d (a75 E (opv E F f) H H' σ) σ H.length H'.length=σ++List.range' H.length q:=by unfold b6d;rw[cond_eq_ite,f2m (by rw[g0j];omega),show H'.length-H.length=q by omega]
    obtain⟨ov,h1,h2,h3⟩:=d82 (af g) eS hq;refine⟨ov,q,h1,hq,by rw[hk];exact h2,?_⟩;intro C f' h I ρ a w aj hf hh hC K Q hK;obtain⟨an,aJ,tr⟩:=T aj hf;have eb:∀b,H.length<=b->b<H.length+q->ρ b=none:=λb h1 h2=>aj.nrel b (by omega) (hC b h1 h2);refine tr (h3 aj.rel eb hh aJ) ?_
    rintro en w' ⟨c,I',ρ',rfl,hI,cV,hρ',bJ,dk⟩
    refine⟨c,rfl,?_⟩;obtain⟨M,hM⟩:=aj.fin;have aG:∀b m,ρ b=some m->ρ' b=some m:=by intro b m hb;rw[hρ' b (λe=>by rw[eb b e.1 e.2]at hb;cases hb)];exact hb
    refine hK I' ρ' _ _ ⟨λc hc=>hI c (aj.imm c hc),λb hb=>?_,aj.ext.trans aj.imm cV,bJ,λb hb hc=>?_,⟨max M (H.length+q),λb hb=>?_⟩,by rw[a9j];exact aj.size,?_,by rw[a3f];exact aj.marks.mono hI (λc hc=>cV.keep c (.inl hc))⟩
    ·rw[hρ' b (by omega)];exact aj.map b hb
    ·rw[hρ' b (λe=>hc (.inr e))];exact aj.nrel b hb (λh=>hc (.inl h))
    ·rw[hρ' b (by omega)];exact hM b (by omega)
    ·exact b1p (λv c hv=>VRel.mono hI (λc hc=>cV.keep c (.inl hc)) v aG hv) aj.size aj.frm hd dk
   have ak:H'.length=H.length:=Classical.not_not.1 aX;have hk:b6d (a75 E (opv E F f) H H' σ) σ H.length H'.length=(bif a75 E (opv E F f) H H' σ then[]else σ):=by unfold b6d;rw[ak,cond_eq_ite,f2w (by rw[g0j])]
   rw[hk];obtain⟨ov,h1,h2,h3⟩:=d3v (af g) eS ak;obtain⟨ov,h1,h2,h3⟩:∃ov:Nat->Option (Option AObj),(a02 H'=λb=>(ov b).getD (a02 H b))∧(∀b,(ov b).isSome=true->b∈(bif a75 E (opv E F f) H H' σ then[]else σ))∧
    ∀{I K:Nat->Prop} {ρ:PMap} {h:FHeap} {w:World} {an:List Value},HRel E.G I K ρ h w->(∀b∈σ,h b=a02 H b)->VRels I w ρ as an->
     XOf E g an w λen w'=>∃c I',en = .returned c∧(∀c,I c->I' c)∧Ext I K w w'∧HRel E.G I' K ρ (λb=>(ov b).getD (h b)) w'∧VRel I' w' ρ v c:=by
    cases lx:a75 E (opv E F f) H H' σ with
    |false=>exact⟨ov,h1,h2,h3⟩
    |true=>
     have bP:∀b∈σ,a02 H b=a02 H' b:=rp lx;have cR:∀b x,ov b=some x->x=a02 H b:=by intro b x hx;have e1:=bP b (h2 b (by rw[hx];rfl));rw[h1]at e1;simp only[hx,f4v]at e1;exact e1.symm
     refine⟨λ_=>none,?_,λb hb=>by simp at hb,?_⟩
     ·rw[h1];funext b
      cases hx:ov b with
      |none=>rfl
      |some x=>simp only[f4v,Option.getD_none];exact cR b x hx
     ·intro I K ρ h w an bJ hh ha;have e:(λb=>(ov b).getD (h b))=h:=by
       funext b
       cases hx:ov b with
       |none=>rfl
       |some x=>simp only[f4v];rw[cR b x hx,hh b (h2 b (by rw[hx];rfl))]
      refine XOf.mono (h3 bJ hh ha) ?_
      rintro en w' ⟨c,I',r1,r2,r3,r4,r5⟩
      rw[e]at r4;exact⟨c,I',r1,r2,r3,by simpa using r4,r5⟩
   refine⟨ov,0,h1,ak,h2,?_⟩;intro C f' h I ρ a w aj hf hh hC K Q hK;obtain⟨an,aJ,tr⟩:=T aj hf;refine tr (h3 aj.rel hh aJ) ?_
   rintro en w' ⟨c,I',rfl,hI,cV,bJ,dk⟩
   refine⟨c,rfl,?_⟩;refine hK I' ρ _ _ ⟨λc hc=>hI c (aj.imm c hc),aj.map,aj.ext.trans aj.imm cV,bJ,λb hb hc=>aj.nrel b hb (λh=>hc (.inl h)),aj.fin,by rw[a9j];exact aj.size,?_,by rw[a3f];exact aj.marks.mono hI (λc hc=>cV.keep c (.inl hc))⟩;exact b1p (λv c hv=>VRel.mono hI (λc hc=>cV.keep c (.inl hc)) v (λ_ _ h=>h) hv) aj.size aj.frm hd dk
  have oR:¬((true && !(Nat.ble H.length H'.length))=true)->H.length<=H'.length:=by intro h;simpa only[f8f,f6z,Bool.not_eq_false,f7k]using h
  unfold a20 at aZ;split at aZ
  case h_3=>cases aZ
  case h_2=>
   rename_i b iN;split at aZ
   case h_2=>cases aZ
   rename_i oJ H2 σ2 eS;rw[cond_eq_ite]at aZ;split at aZ
   case isTrue=>cases aZ
   rename_i ak;cases aZ;refine tail yId _ eS (oR ak) (λh=>by rw[iN]at h;simp[a75]at h) ?_;intro C f' h I ρ a w aj hf;have eC:=b4k (E:=E) hf;rw[eD]at eC;have lM:=aj.opvf f;rw[<-eC f (by simp[Op.operands,Call.operands]),iN]at lM;simp only[VRel]at lM;obtain⟨m,hm,iP⟩:=lM;have aJ:args.toList.map (opv E F)=args.toList.map (opvf E f'):=f4y λx hx=>eC x (by simp[Op.operands,Call.operands];exact .inr (by simpa using hx));refine⟨.func (.yield m.blk) #[] #[]::(args.map a.eval).toList,?_,?_⟩
   ·simp only[VRels];refine⟨_,_,rfl,by simp only[VRel];exact⟨m,hm,rfl⟩,?_⟩;rw[f8q,aJ];exact a5m aj.opvf args.toList
   ·intro R hc K Q hK;rw[e3n]at hc;obtain⟨l,vs,fn,tmps,asg,body,he,hy,hr⟩:=hc;simp only[List.cons.injEq,Value.func.injEq,Fn.yield.injEq,f8s]at he;obtain⟨hl,rfl⟩:=he;have bz:(args.map a.eval).toList.toArray=args.map a.eval:=by apply f9b;simp
    rw[bz]at hy;refine a8i (by rw[eD];intro c hc;cases hc) ?_;rw[b80 eD iP,hl,hy];refine b6s (hr.mono ?_);intro en w' hR;obtain⟨c,rfl,hk⟩:=hK en w' hR;exact hk
  rename_i g fs cs iN
  -- the operands in another state
  have kM:∀{C:Nat->Prop} {f':Nat->AV} {h:FHeap} {I:Nat->Prop} {ρ:PMap} {a:Act} {w:World},DNow E e N m0 C f' h I ρ a w->(∀s∈b2e o.op.operands.toList,f' s=a35 F s)->
   ∃dj aO,a.eval f = .func (.func g) dj aO∧VRels I w ρ (fs++args.toList.map (opv E F)++cs) (dj++args.map a.eval++aO).toList:=by
   intro C f' h I ρ a w aj hf;have eC:=b4k (E:=E) hf;rw[eD]at eC;have lM:=aj.opvf f;rw[<-eC f (by simp[Op.operands,Call.operands]),iN]at lM;simp only[VRel]at lM;obtain⟨dj,aO,iP,lL,cL⟩:=lM;have aJ:args.toList.map (opv E F)=args.toList.map (opvf E f'):=f4y λx hx=>eC x (by simp[Op.operands,Call.operands];exact .inr (by simpa using hx));refine⟨dj,aO,iP,?_⟩;simp only[Array.toList_append,f8q];rw[aJ];exact VRels.append (VRels.append lL (a5m aj.opvf args.toList)) cL
  rw[cond_eq_ite]at aZ;split at aZ
  ·rename_i cV;rw[cond_eq_ite]at aZ;split at aZ
   ·rename_i hg;obtain⟨hH,hσ,au,v0,H1,e1,e2,e3,e4⟩:=b4z aZ;subst hH;refine⟨λ_=>none,0,rfl,rfl,by simp,?_⟩;intro C f' h I ρ a w aj hf hh hC K Q hK;obtain⟨dj,aO,iP,aJ⟩:=kM aj hf;have aV:∀b o,a02 H' b=some o->h b=some o:=by
     intro b o hb;have ai:b<H'.length:=by
      rcases f6u b H'.length with h'|h'
      ·exact h'
      ·simp[a02,f2s h']at hb
     rw[hh b (by rw[hσ];exact f7n.2 ai)];exact hb
    have hc:=c1q (af g) aV aj.rel aJ e1 e2 e3 e4;obtain⟨i,hi⟩:=f1j.1 hg;rw[b2y (c8p ok hi)]at hc;have bz:(dj++args.map a.eval++aO).toList.toArray=dj++args.map a.eval++aO:=by apply f9b;simp
    rw[bz]at hc;refine a8i (by rw[eD];intro c hc;cases hc) ?_;rw[b14 eD iP,a49 ok hg];refine a9b (Calls.mono hc ?_)
    rintro en w' ⟨c,I',rfl,hI,kw,bJ,dk⟩
    refine hK I' ρ _ _ ⟨λc hc=>hI c (aj.imm c hc),aj.map,aj.ext.trans aj.imm kw,bJ,λb hb hc=>aj.nrel b hb (λh=>hc (.inl h)),aj.fin,by rw[a9j];exact aj.size,?_,by rw[a3f];exact aj.marks.mono hI (λc hc=>kw.keep c (.inl hc))⟩;exact b1p (λv c hv=>VRel.mono hI (λc hc=>kw.keep c (.inl hc)) v (λ_ _ h=>h) hv) aj.size aj.frm hd dk
   rename_i bE;split at aZ
   case h_2=>cases aZ
   rename_i oJ mW;cases aZ;refine⟨λ_=>none,0,rfl,rfl,by simp,?_⟩;intro C f' h I ρ a w aj hf hh hC K Q hK;obtain⟨dj,aO,iP,aJ⟩:=kM aj hf;obtain⟨c,ae,dk⟩:=b2v (E:=E) (w:=w) ok cV (by simpa using bE) mW aJ;have bz:(dj++args.map a.eval++aO).toList.toArray=dj++args.map a.eval++aO:=by apply f9b;simp
   rw[bz]at ae;refine a8i (by rw[eD];intro c hc;cases hc) ?_;rw[b14 eD iP,ae,Oper.uponIn_value];refine hK I ρ _ _ ⟨aj.imm,aj.map,aj.ext,aj.rel,λb hb hc=>aj.nrel b hb (λh=>hc (.inl h)),aj.fin,by rw[a9j];exact aj.size,?_,by rw[a3f];exact aj.marks⟩;exact b1p (λ_ _ h=>h) aj.size aj.frm hd dk
  ·rw[cond_eq_ite]at aZ;split at aZ
   case isFalse=>cases aZ
   rename_i hg;split at aZ
   case h_2=>cases aZ
   rename_i oJ H2 σ2 eS;rw[cond_eq_ite]at aZ;split at aZ
   case isTrue=>cases aZ
   rename_i ak;cases aZ;refine tail g _ eS (oR ak) ?_ ?_
   ·intro lx;rw[iN]at lx;simp only[a75,f1d,f4l]at lx;exact λb hb=>c57 _ _ (lx.2 b hb)
   intro C f' h I ρ a w aj hf;obtain⟨dj,aO,iP,aJ⟩:=kM aj hf;refine⟨_,aJ,?_⟩;intro R hc K Q hK;obtain⟨i,hi⟩:=f1j.1 hg;rw[b2y (c8p ok hi)]at hc;have bz:(dj++args.map a.eval++aO).toList.toArray=dj++args.map a.eval++aO:=by apply f9b;simp
   rw[bz]at hc;refine a8i (by rw[eD];intro c hc;cases hc) ?_;rw[b14 eD iP,a49 ok hg];refine a9b (Calls.mono hc ?_);intro en w' hR;obtain⟨c,rfl,hk⟩:=hK en w' hR;exact hk
 ·split at hs
  case h_2=>cases hs
  rename_i v' eff ha;rw[cond_eq_ite]at hs;split at hs
  case isFalse=>cases hs
  rename_i cG;cases hs;refine⟨c9k H.length eff,eff.nf,e2j cG,?_,λb hb=>d1a hb,d8b ok dz bD hd ha⟩;rw[b0j];unfold Eff.nf;split<;>rfl
end
end Go.Ax
/- AxDraw3: the whole of a region that draws its order. -/
namespace Go.Ax
section
variable {E:Env}{e:Entry}{N m0:Nat}{ap:Array Oper}{Q:Exit->Act->World->Prop}{f0:Nat->AV}{h0:FHeap}
structure RecOk(E:Env)(ro:Option Nat)(e:Entry)(N m0:Nat)(ap:Array Oper)(Q:Exit->Act->World->Prop)(f0:Nat->AV)(h0:FHeap)(p:List Rec)(i:Nat)(r:Rec):Prop where
 dst:∀o,ap[i]?=some o->r.dst=o.dst
 keys:∀b,(r.ov b).isSome=true->b∈r.log.keys
 good:∀{C:Nat->Prop} {f:Nat->AV} {h:FHeap} {I:Nat->Prop} {ρ:PMap} {a:Act} {w:World},DNow E e N m0 C f h I ρ a w->(∀o,ap[i]?=some o->∀s∈looks ap.toList o,f s=gL fov f0 a4m p s)->
  (∀b∈r.log.needs,h b=gL hov h0 a4m p b)->(∀b,cnt m0 p<=b->b<cnt m0 p+r.fresh->¬C b)->
  ∀{K:Act->World->Prop},(∀I' ρ' a' w',DNow E e N m0 (λb=>C b∨(cnt m0 p<=b∧b<cnt m0 p+r.fresh)) (λs=>(fov r s).getD (f s)) (λb=>(hov r b).getD (h b)) I' ρ' a' w'->K a' w')->wpOpIn (wf ro) 0 E.P ap Q i K a w
def RecsOk(E:Env)(ro:Option Nat)(e:Entry)(N m0:Nat)(ap:Array Oper)(Q:Exit->Act->World->Prop)(f0:Nat->AV)(h0:FHeap)(aL:List Rec):Prop:=∀i r,nth aL i=some r->RecOk E ro e N m0 ap Q f0 h0 (pre aL i) i r
theorem RecsOk.cons{ro:Option Nat}{aL:List Rec}{r:Rec}(h:RecsOk E ro e N m0 ap Q f0 h0 aL)(hr:RecOk E ro e N m0 ap Q f0 h0 aL aL.length r):RecsOk E ro e N m0 ap Q f0 h0 (r::aL):=by
 intro i r' hi;unfold nth at hi;simp only[pre];split at hi
 ·rename_i he;cases hi;rw[f2w he,he];exact hr
 ·rename_i he;rw[f2m he];exact h i r' hi
theorem c6k:∀{l:List Rec},m0<=cnt m0 l
 | []=>f2q _
 |r::al=>by have:=c6k (l:=al);simp only[cnt];omega
theorem c4w{I:Nat->Prop}{w:World}{ρ:PMap}{a:Act}{v:AV}{j d:Nat}(hg:a3d ap.toList j=some d)(hv:VRel I w ρ v (a.tmps.getD d undef)) :
 (∀b,v = .bool b->yielded ap a.tmps j=some b)∧(v = .tuple []->yielded ap a.tmps j=none):=by
 have hd:(ap[j]?).bind (·.dst)=some d:=by simpa[a3d]using hg
 have aM:∀c,a.tmps.getD d undef=c->c≠undef->a.tmps[d]?=some c:=by
  intro c hc aw;rw[f4u]at hc;cases hx:a.tmps[d]? with
  |none=>rw[hx]at hc;exact absurd hc.symm aw
  |some x=>rw[hx]at hc;simpa using hc
 refine⟨λb hb=>?_,λhb=>?_⟩
 ·rw[hb]at hv;simp only[VRel]at hv;have:=aM _ hv (by simp[undef]);simp[yielded,hd,this]
 ·rw[hb]at hv;simp only[VRel]at hv;obtain⟨cs,hc,cL⟩:=hv;unfold yielded;rw[hd];simp only[f7s];rw[f4u]at hc;cases hx:a.tmps[d]? with
  |none=>rfl
  |some x=>rw[hx]at hc;simp only[f4v]at hc;rw[hc]
theorem d21{o:Oper}{s:Nat}(h:s∈b2e o.op.operands.toList):s∈looks ap.toList o:=List.mem_append_left _ h
theorem c42{o:Oper}{j d:Nat}{bt:Bool}(hg:o.guard=some (j,bt))(hs:a3d ap.toList j=some d):d∈looks ap.toList o:=by simp[looks,hg,hs]
theorem b0a(ok:EnvOk E){ro:Option Nat}{call:FuncId->List AV->a03->Option (AV×a03)}(af:a45 E call)(dz:e.m<=m0){R:Type}{k:Frm->a03->Option R}{r:R} :
 ∀(al:List Oper) (aL:List Rec) (F:Frm) (H:a03),al=ap.toList.drop aL.length->aL.length+al.length=ap.size->a35 F=gL fov f0 a4m aL->a02 H=gL hov h0 a4m aL->H.length=cnt m0 aL->
  RecsOk E ro e N m0 ap Q f0 h0 aL->a2w E true N call ap.toList al (aL.map (·.log)) F H k=some r->
  ∃a9 F' H',a9.length=ap.size∧a35 F'=gL fov f0 a4m a9∧a02 H'=gL hov h0 a4m a9∧H'.length=cnt m0 a9∧RecsOk E ro e N m0 ap Q f0 h0 a9∧
   logOk ap.toList (a9.map (·.log)).length (a9.map (·.log))=true∧k F' H'=some r
 | [],aL,F,H,_,ak,hF,hH,hn,d9,ae=>by
  simp only[a2w,f8t,Bool.false_or]at ae;rw[cond_eq_ite]at ae;split at ae
  case isFalse=>cases ae
  rename_i kj;exact⟨aL,F,H,by simpa using ak,hF,hH,hn,d9,kj,ae⟩
 |o::al,aL,F,H,du,ak,hF,hH,hn,d9,ae=>by
  have ho:ap[aL.length]?=some o:=by
   have:(ap.toList.drop aL.length)[0]?=some o:=by rw[<-du];rfl
   rw[List.getElem?_drop]at this;simpa using this
  have ge:al=ap.toList.drop (aL.length+1):=by
   have:(ap.toList.drop aL.length).drop 1=al:=by rw[<-du];rfl
   rw[List.drop_drop]at this;exact this.symm
  unfold a2w at ae;rw[cond_eq_ite]at ae;split at ae
  case isFalse=>cases ae
  rename_i hd;simp only[f1c]at ak
  -- a step that is executed,and one that is not
  have exec:∀F0,a35 F0=a35 F->(match a10 E true call F0 H o.op with
   |some (v,H',l)=>a2w E true N call ap.toList al (l::aL.map (·.log)) (a42 F0 o.dst v) H' k
   |none=>none)=some r->
   (∀{I:Nat->Prop} {w:World} {ρ:PMap} {a:Act} {f:Nat->AV},(∀s∈looks ap.toList o,f s=gL fov f0 a4m aL s)->(∀s,VRel I w ρ (f s) (a.tmps.getD s undef))->Region.wanted o (yielded ap a.tmps)=true)->
   ∃a9 F' H',a9.length=ap.size∧a35 F'=gL fov f0 a4m a9∧a02 H'=gL hov h0 a4m a9∧H'.length=cnt m0 a9∧RecsOk E ro e N m0 ap Q f0 h0 a9∧
    logOk ap.toList (a9.map (·.log)).length (a9.map (·.log))=true∧k F' H'=some r:=by
   intro F0 qN hr hw;split at hr
   case h_2=>cases hr
   rename_i v H' l hs;obtain⟨ov,fresh,h1,h2,h3,h4⟩:=d0d (ro:=ro) (e:=e) (N:=N) (m0:=m0) ok af dz (by rw[hn];exact c6k) hs hd;refine b0a ok af dz al (⟨o.dst,v,ov,fresh,l⟩::aL) (a42 F0 o.dst v) H' (by simpa using ge) (by simp only[f1c];omega) ?_ ?_ ?_ (d9.cons ?_) hr
   ·simp only[gL,a4m,f7i];rw[<-hF,<-qN]
    funext s
    cases ny:o.dst with
    |none=>simp[a42,fov]
    |some d=>rw[a8v];simp only[fov,Option.some.injEq];split<;>rfl
   ·simp only[gL,a4m,f7i];rw[<-hH];exact h1
   ·simp only[cnt];rw[<-hn];exact h2
   ·refine⟨λo' eR=>by rw[ho]at eR;cases eR;rfl,h3,?_⟩;intro C f h I ρ a w aj hf hh hC K hK;have hf:=hf o ho;unfold wpOpIn;simp only[ho];rw[f2w (hw hf aj.frm)];refine(h4 aj (λs hs=>by rw[hf s (d21 hs),qN,hF]) (λb hb=>by rw[hh b hb,hH]) (by rw[hn];exact hC) ?_);rw[hn];exact hK
  have skip:∀F0,a35 F0=a35 F->a2w E true N call ap.toList al (⟨[],[]⟩::aL.map (·.log)) (a42 F0 o.dst (.tuple [])) H k=some r->
   (∀{I:Nat->Prop} {w:World} {ρ:PMap} {a:Act} {f:Nat->AV},(∀s∈looks ap.toList o,f s=gL fov f0 a4m aL s)->(∀s,VRel I w ρ (f s) (a.tmps.getD s undef))->Region.wanted o (yielded ap a.tmps)=false)->
   ∃a9 F' H',a9.length=ap.size∧a35 F'=gL fov f0 a4m a9∧a02 H'=gL hov h0 a4m a9∧H'.length=cnt m0 a9∧RecsOk E ro e N m0 ap Q f0 h0 a9∧
    logOk ap.toList (a9.map (·.log)).length (a9.map (·.log))=true∧k F' H'=some r:=by
   intro F0 qN hr hw;refine b0a ok af dz al (⟨o.dst,.tuple [],λ_=>none,0,⟨[],[]⟩⟩::aL) (a42 F0 o.dst (.tuple [])) H (by simpa using ge) (by simp only[f1c];omega) ?_ ?_ ?_ (d9.cons ?_) hr
   ·simp only[gL,a4m,f7i];rw[<-hF,<-qN]
    funext s
    cases ny:o.dst with
    |none=>simp[a42,fov]
    |some d=>rw[a8v];simp only[fov,Option.some.injEq];split<;>rfl
   ·simp only[gL,a4m,f7i];rw[<-hH];rfl
   ·simp only[cnt];exact hn
   ·refine⟨λo' eR=>by rw[ho]at eR;cases eR;rfl,by simp,?_⟩;intro C f h I ρ a w aj hf hh hC K hK;have hf:=hf o ho;unfold wpOpIn;simp only[ho];rw[f2m (by rw[hw hf aj.frm];simp)];refine⟨λf _=>e01 ro f,?_⟩;refine hK I ρ _ _ ⟨aj.imm,aj.map,aj.ext,aj.rel,λb hb hc=>aj.nrel b hb (λh=>hc (.inl h)),aj.fin,by rw[a9j];exact aj.size,?_,by rw[a3f];exact aj.marks⟩;exact b1p (λ_ _ h=>h) aj.size aj.frm hd (by simp only[VRel,undef];exact⟨#[],rfl,by simp[VRels]⟩)
  split at ae
  ·rename_i hg;exact exec F rfl ae (λ_ _=>by simp[Region.wanted,hg])
  ·rename_i j bt hg;split at ae
   case h_1=>cases ae
   rename_i d pL;have jK:=c42 (o:=o) hg pL;split at ae
   ·rename_i b hb;have hw:∀{I:Nat->Prop} {w:World} {ρ:PMap} {a:Act} {f:Nat->AV},(∀s∈looks ap.toList o,f s=gL fov f0 a4m aL s)->(∀s,VRel I w ρ (f s) (a.tmps.getD s undef))->Region.wanted o (yielded ap a.tmps)=(b==bt):=by
     intro I w ρ a f hf hv;have pP:f d = .bool b:=by rw[hf d jK,<-hF,hb]
     have:=(c4w pL (hv d)).1 b pP;simp[Region.wanted,hg,this]
    have aF:a35 (a42 F (some d) (.bool b))=a35 F:=by
     funext s
     rw[a8v];split
     ·rename_i hs;rw[<-hs,hb]
     ·rfl
    cases b
    ·simp only[f4i]at ae;cases bt
     ·simp only[f4i]at ae;exact exec _ aF ae (λhf hv=>by rw[hw hf hv];rfl)
     ·simp only[f2v]at ae;exact skip _ aF ae (λhf hv=>by rw[hw hf hv];rfl)
    ·simp only[f2v]at ae;cases bt
     ·simp only[f4i]at ae;exact skip _ aF ae (λhf hv=>by rw[hw hf hv];rfl)
     ·simp only[f2v]at ae;exact exec _ aF ae (λhf hv=>by rw[hw hf hv];rfl)
   ·rename_i hb;refine skip F rfl ae (λ{I w ρ a f} hf hv=>?_);have pP:f d = .tuple []:=by rw[hf d jK,<-hF,hb]
    have:=(c4w pL (hv d)).2 pP;simp[Region.wanted,hg,this]
   ·cases ae
theorem a59{aL:List Rec}:∀{i:Nat} {r:Rec},nth aL i=some r->nth (aL.map (·.log)) i=some r.log:=by
 induction aL with
 |nil=>intro i r h;simp[nth]at h
 |cons a al ih=>
  intro i r h;unfold nth at h;simp only[f1a,nth,c10];split at h
  ·rename_i hi;cases h;rw[f2w hi]
  ·rename_i hi;rw[f2m hi];exact ih h
theorem b4r{a b:List Nat}{x:Nat}(h1:x∈a)(h2:x∈b):c1k a b=true:=by simp only[c1k,List.any_eq_true,a2p];exact⟨x,h1,h2⟩
theorem DNow.weaken{C C':Nat->Prop}{f:Nat->AV}{h:FHeap}{I:Nat->Prop}{ρ:PMap}{a:Act}{w:World}(d:DNow E e N m0 C f h I ρ a w)(hC:∀b,C b->C' b):DNow E e N m0 C' f h I ρ a w:={ d with nrel:=λb hb hc=>d.nrel b hb (λh=>hc (hC b h)) }
theorem b7f{S:Nat->Bool}{b:Nat}:∀{l:List Rec},c8c m0 S l b->c8c m0 a4m l b
 | [],h=>h
 |_::_,h=>h.imp (λ⟨_,h2⟩=>⟨rfl,h2⟩) b7f
theorem d7l{ro:Option Nat}(az:c6e ap.toList=true){aL:List Rec}(ak:aL.length=ap.size)(d9:RecsOk E ro e N m0 ap Q f0 h0 aL)(kj:logOk ap.toList (aL.map (·.log)).length (aL.map (·.log))=true)
 (hQ:∀I ρ a w,DNow E e N m0 (c8c m0 a4m aL) (gL fov f0 a4m aL) (gL hov h0 a4m aL) I ρ a w->Q .normal a w) :
 ∀(a8:Nat) (aB:Array Bool) (I:Nat->Prop) (ρ:PMap) (a:Act) (w:World),aB.size=ap.size->((List.range ap.size).filter λi=>!aB.getD i false).length<=a8->
  (∀j,aB.getD j false=true->a81 ap.toList (λi=>aB.getD i false) j)->
  DNow E e N m0 (c8c m0 (λi=>aB.getD i false) aL) (gL fov f0 (λi=>aB.getD i false) aL) (gL hov h0 (λi=>aB.getD i false) aL) I ρ a w->
  wpAnyIn (wf ro) 0 E.P .any ap Q a8 aB a w:=by
 have done:∀(aB:Array Bool) (I:Nat->Prop) (ρ:PMap) (a:Act) (w:World),(∀i,i<ap.size->aB.getD i false=true)->
  DNow E e N m0 (c8c m0 (λi=>aB.getD i false) aL) (gL fov f0 (λi=>aB.getD i false) aL) (gL hov h0 (λi=>aB.getD i false) aL) I ρ a w->Q .normal a w:=by
  intro aB I ρ a w aW aj;have bP:∀j,j<aL.length->(λi=>aB.getD i false) j=a4m j:=λj hj=>by rw[ak]at hj;exact aW j hj
  rw[b9n bP,b9n bP]at aj;exact hQ I ρ a w (aj.weaken λb=>b7f)
 intro a8
 induction a8 with
 |zero=>
  intro aB I ρ a w cj nC cM aj;have aW:∀i,i<ap.size->aB.getD i false=true:=by
   intro i hi;cases hx:aB.getD i false with
   |true=>rfl
   |false=>
    have:i∈(List.range ap.size).filter λi=>!aB.getD i false:=by rw[f8x,f7n];exact⟨hi,by rw[hx];rfl⟩
    have:=List.length_pos_of_mem this;omega
  have iF:Region.ready .any ap aB=[]:=by
   cases hr:Region.ready .any ap aB with
   |nil=>rfl
   |cons i al=>
    have:i∈Region.ready .any ap aB:=by rw[hr];simp
    obtain⟨h1,o,h2,_⟩:=mem_ready.1 this;have hi:=(f5b.1 h2).1;have:=aW i hi;simp only[f4u,Array.getElem?_eq_getElem (show i<aB.size by omega),f4v]at h1 this;rw[this]at h1;cases h1
  exact⟨iF,done aB I ρ a w aW aj⟩
 |succ a8 ih=>
  intro aB I ρ a w cj nC cM aj;refine⟨λiF=>done aB I ρ a w ?_ aj,λi hi=>?_⟩
  ·intro i
   induction i using Nat.strongRecOn with
   |_ i ihi=>
    intro hi;cases hx:aB.getD i false with
    |true=>rfl
    |false=>
     exfalso;have dN:i∈Region.ready .any ap aB:=by
      refine mem_ready.2 ⟨?_,ap[i],by simp[hi],λe he hb=>?_⟩
      ·simpa only[f4u,Array.getElem?_eq_getElem (show i<aB.size by omega),f4v]using hx
      ·have:=(b17 az (j:=i) (y:=ap[i]) (by simp[hi])).1 e (by simpa using he) hb;exact ihi e.on this (by omega)
     rw[iF]at dN;cases dN
  ·obtain⟨h1,o,ho,nw⟩:=mem_ready.1 hi;have jw:=(f5b.1 ho).1;have cE:ap.toList[i]?=some o:=by simpa using ho
   generalize hS:(λi=>aB.getD i false)=S at cM aj;have lU:S i=false:=by rw[<-hS];simp only[f4u,Array.getElem?_eq_getElem (show i<aB.size by omega),f4v]at h1⊢;exact h1
   have lP:∀j,S j=true->a81 ap.toList S j:=by intro j hj;rw[<-hS]at hj;exact cM j hj
   have pT:a81 ap.toList S i:=by intro o' eR e he hb;rw[cE]at eR;cases eR;rw[<-hS];exact nw e (by simpa using he) hb
   obtain⟨r,hr⟩:=c5f (l:=aL) (i:=i) (by omega);have na:=d9 i r hr;have oO:∀j r',nth aL j=some r'->∃o',ap.toList[j]?=some o'∧r'.dst=o'.dst:=by
    intro j r' hj;have bg:=b4l hj;have:ap[j]?=some ap[j]:=by simp
    exact⟨ap[j],by simp,(d9 j r' hj).dst _ this⟩
   have bC:∀j,a6k ap.toList j i=true->S j=true:=λj h=>b7d lP pT h;have after:∀j,a6k ap.toList i j=true->S j=false:=by
    intro j h;cases hx:S j with
    |false=>rfl
    |true=>rw[b7d lP (lP j hx) h]at lU;cases lU
   refine na.good aj ?_ ?_ ?_ ?_
   ·intro o' eR s hs;rw[ho]at eR;cases eR;refine e26 hr λj r' hj hd=>?_;obtain⟨oj,tv,u7⟩:=oO j r' hj;have pR:oj.dst=some s:=by
     rw[<-u7];unfold fov at hd;split at hd
     ·assumption
     ·simp at hd
    refine⟨λjb=>bC j ?_,λbq=>?_⟩
    ·refine(b17 az cE).2 j oj tv jb ?_;simp only[a6f,pR,f8w,List.contains_iff_mem];exact .inl (.inl hs)
    ·rcases Nat.lt_or_eq_of_le bq with ai|rfl
     ·refine after j ((b17 az tv).2 i o cE ai ?_);simp only[a6f,pR,f8w,List.contains_iff_mem];exact .inl (.inr hs)
     ·exact lU
   ·intro b hb;refine e26 hr λj r' hj hd=>?_;have cU:=(d9 j r' hj).keys b hd;refine⟨λjb=>bC j ?_,λbq=>?_⟩
    ·refine b3g kj j i _ _ jb (a59 hj) (a59 hr) ?_;simp only[LogE.clash,b4r cU hb,Bool.true_or]
    ·rcases Nat.lt_or_eq_of_le bq with ai|rfl
     ·refine after j (b3g kj i j _ _ ai (a59 hr) (a59 hj) ?_);simp only[LogE.clash,b4r hb cU,Bool.or_true]
     ·exact lU
   ·intro b cO em hm;rw[d1x hr cO em hm]at lU;cases lU
   ·intro I' ρ' a' w' pq;have oB:(λj=>(aB.setIfInBounds i true).getD j false)=c1c S i:=by
     funext j
     rw[<-hS];simp only[c1c,f4u,f5a];by_cases bq:i=j
     ·subst bq;simp[show i<aB.size by omega]
     ·rw[f2m bq,f6o.2 (f9l bq),Bool.false_or]
    refine ih _ I' ρ' a' w' (by simpa using cj) ?_ ?_ ?_
    ·have rX:((List.range ap.size).filter λj=>!(aB.setIfInBounds i true).getD j false)=((List.range ap.size).filter λj=>!aB.getD j false).filter λj=>!(j==i):=by
      rw[List.filter_filter];refine List.filter_congr λj _=>?_;have h1:=congrFun oB j;have h2:=congrFun hS j;rw[h1,h2];simp[c1c]
     rw[rX];have:(((List.range ap.size).filter λj=>!aB.getD j false).filter λj=>!(j==i)).length<((List.range ap.size).filter λj=>!aB.getD j false).length:=by refine List.length_filter_lt_length_iff_exists.2 ⟨i,?_,by simp⟩;rw[f8x,f7n];refine⟨jw,?_⟩;have h2:=congrFun hS i;rw[h2,lU];rfl
     omega
    ·rw[oB];have mo:∀j,a81 ap.toList S j->a81 ap.toList (c1c S i) j:=λj h o ho e he hb=>by simp[c1c,h o ho e he hb]
     intro j hj;have hj:c1c S i j=true:=by rw[<-oB];exact hj
     simp only[c1c,f8w,f7u]at hj;rcases hj with rfl|hj
     ·exact mo _ pT
     ·exact mo _ (lP j hj)
    ·rw[oB];rw[d31 hr lU ?_,d31 hr lU ?_]
     ·exact pq.weaken λb hb=>c1l hr hb
     ·intro k r' hk im sJ s hs;cases hx:hov r' s with
      |none=>rfl
      |some ob=>have h1:=na.keys s hs;have h2:=(d9 k r' hk).keys s (by unfold hov at hx;rw[hx];rfl);have:=after k (b3g kj i k _ _ im (a59 hr) (a59 hk) (by simp only[LogE.clash,b4r h1 h2,Bool.or_true,Bool.true_or]));rw[sJ]at this;cases this
     ·intro k r' hk im sJ s hs;cases hx:fov r' s with
      |none=>rfl
      |some v=>
       obtain⟨ok,uI,u6⟩:=oO k r' hk;have h1:o.dst=some s:=by
        rw[<-na.dst o ho];unfold fov at hs;split at hs
        ·assumption
        ·simp at hs
       have h2:ok.dst=some s:=by
        rw[<-u6];unfold fov at hx;split at hx
        ·assumption
        ·cases hx
       have:=after k ((b17 az uI).2 i o cE im (by simp[a6f,h1,h2]));rw[sJ]at this;cases this
theorem c3o(ok:EnvOk E){ro:Option Nat}{call:FuncId->List AV->a03->Option (AV×a03)}(af:a45 E call){R:Type}{k:Frm->a03->Option R}{r:R}{F:Frm}{H:a03}{I:Nat->Prop}{ρ:PMap}{a:Act}{w:World}
 (az:c6e ap.toList=true)(hQ:∀F H I ρ a w,Now E e N F H I ρ a w->k F H=some r->Q .normal a w)(aj:Now E e N F H I ρ a w)(ae:a2w E true N call ap.toList ap.toList [] F H k=some r)(id:Nat) :
 (Code.region id ap true).wpIn (wf ro) 0 E.P Q a w:=by
 refine wpIn_region_any ok.mixed ?_;obtain⟨aL,F',H',h1,h2,h3,h4,h5,h6,h7⟩:=b0a (ro:=ro) (e:=e) (N:=N) (m0:=H.length) (Q:=Q) (f0:=a35 F) (h0:=a02 H) ok af aj.low ap.toList [] F H (by simp) (by simp) rfl rfl rfl (λi r h=>by simp[nth]at h) ae;have kv:∀i,(Array.replicate ap.size false).getD i false=false:=by intro i;simp only[f4u,Array.getElem?_replicate];split<;>rfl
 have eb:∀{V:Type} (o:Rec->Nat->Option V) (g0:Nat->V) (l:List Rec),gL o g0 (λi=>(Array.replicate ap.size false).getD i false) l=g0:=by
  intro V o g0 l
  induction l with
  |nil=>rfl
  |cons a al ih=>unfold gL;rw[f2m (by rw[kv];simp)];exact ih
 refine d7l az h1 h5 h6 ?_ ap.size _ I ρ a _ (by simp) ?_ ?_ ?_
 ·intro I' ρ' a' w' hd;refine hQ F' H' I' ρ' a' w' ⟨hd.imm,hd.map,hd.ext,?_,?_,⟨hd.size,λs=>by rw[h2];exact hd.frm s⟩,?_,hd.marks⟩ h7
  ·rw[h3];exact hd.rel
  ·intro b hb;have tI:H.length<=cnt H.length aL:=c6k;refine hd.nrel b (by omega) (λhm=>?_);have:=c41 hm;omega
  ·have tI:H.length<=cnt H.length aL:=c6k;have:=aj.low;omega
 ·refine g0n (List.length_filter_le _ _) (by simp)
 ·intro j hj;have:=kv j;rw[this]at hj;cases hj
 ·have ef:=aj.drew;rw[eb,eb];exact⟨ef.imm,ef.map,ef.ext,ef.rel,λb hb _=>ef.nrel b hb,⟨_,ef.nrel⟩,ef.frm.1,ef.frm.2,ef.marks⟩
end
end Go.Ax
/- AxMark: what a loop over a function leaves behind: blocks for deferred calls, shut when the function ends. -/
namespace Go.Ax
section
variable {I:Nat->Prop}{w w':World}
def SameD(w w':World)(c:Nat):Prop:=w'.heap[c]?=w.heap[c]?∨∃d,w.heap[c]?=some (.deferred d)
theorem SameD.map{c:Nat}{es:Array MapEntry}{cl:Nat}(h:SameD w w' c)(hc:w.heap[c]?=some (.map es cl)):w'.heap[c]?=some (.map es cl):=by
 rcases h with h|⟨d,h⟩
 ·rw[h,hc]
 ·rw[hc]at h;cases h
theorem SameD.cell{b o:Nat}{c:Value}(h:SameD w w' b)(hc:w.cell? ⟨b,o,none⟩=some c):w'.cell? ⟨b,o,none⟩=some c:=by
 rcases h with h|⟨d,h⟩
 ·rw[b5u h,hc]
 ·simp[World.cell?,h]at hc
mutual
theorem VRel.monoD(hw:∀c,I c->SameD w w' c):∀{ρ:PMap} (v:AV) {c:Value},VRel I w ρ v c->VRel I w' ρ v c
 |ρ,v,c,h=>by
  cases v with
  |junk=>simp[VRel]
  |bool b=>simpa[VRel]using h
  |int k n=>simpa[VRel]using h
  |str s=>simpa[VRel]using h
  |nilptr=>simpa[VRel]using h
  |nilslice=>simpa[VRel]using h
  |nilmap=>simpa[VRel]using h
  |nilfunc=>simpa[VRel]using h
  |nilifc=>simpa[VRel]using h
  |ptr b i o=>simpa only[VRel]using h
  |iptr cs=>simp only[VRel]at h⊢;obtain⟨b,off,rfl,hb,h⟩:=h;exact⟨b,off,rfl,hb,VAt.monoD hw cs (hw _ hb) h⟩
  |slice b off len cap=>simpa only[VRel]using h
  |islice aa cap=>
   simp only[VRel]at h⊢;obtain⟨a,n,k,rfl,h1,h2,h3⟩:=h;refine⟨a,n,k,rfl,h1,h2,h3.imp id ?_⟩
   rintro⟨hs,hb,h⟩
   exact⟨hs,hb,VRows.monoD hw aa (hw _ hb) h⟩
  |map b=>simpa only[VRel]using h
  |imap ks vs bs br=>simp only[VRel]at h⊢;obtain⟨b,es,rfl,hb,he,h1,h2,h3⟩:=h;exact⟨b,es,rfl,hb,(hw _ hb).map he,VRels.monoD hw ks h1,VRels.monoD hw vs h2,h3⟩
  |iset ks=>simp only[VRel]at h⊢;obtain⟨b,es,cl,rfl,hb,he,h1⟩:=h;exact⟨b,es,cl,rfl,hb,(hw _ hb).map he,h1⟩
  |yfn b=>simpa only[VRel]using h
  |func fn fs cs=>simp only[VRel]at h⊢;obtain⟨dj,aO,rfl,h1,h2⟩:=h;exact⟨dj,aO,rfl,VRels.monoD hw fs h1,VRels.monoD hw cs h2⟩
  |iface t x=>simp only[VRel]at h⊢;obtain⟨x',rfl,h⟩:=h;exact⟨x',rfl,VRel.monoD hw x h⟩
  |agg cs=>simp only[VRel]at h⊢;obtain⟨aO,rfl,h⟩:=h;exact⟨aO,rfl,VRels.monoD hw cs h⟩
  |tuple cs=>simp only[VRel]at h⊢;obtain⟨aO,rfl,h⟩:=h;exact⟨aO,rfl,VRels.monoD hw cs h⟩
theorem VRels.monoD(hw:∀c,I c->SameD w w' c):∀{ρ:PMap} (vs:List AV) {cs:List Value},VRels I w ρ vs cs->VRels I w' ρ vs cs
 |ρ,[],cs,h=>by simpa[VRels]using h
 |ρ,v::vs,cs,h=>by simp only[VRels]at h⊢;obtain⟨c,aO,rfl,h1,h2⟩:=h;exact⟨c,aO,rfl,VRel.monoD hw v h1,VRels.monoD hw vs h2⟩
theorem VAt.monoD(hw:∀c,I c->SameD w w' c):∀{ρ:PMap} (vs:List AV) {b off:Nat},SameD w w' b->VAt I w ρ vs b off->VAt I w' ρ vs b off
 |ρ,[],b,off,hb,h=>by simp[VAt]
 |ρ,v::vs,b,off,hb,h=>by simp only[VAt]at h⊢;obtain⟨⟨c,hc,h1⟩,h2⟩:=h;exact⟨⟨c,hb.cell hc,VRel.monoD hw v h1⟩,VAt.monoD hw vs hb h2⟩
theorem VRows.monoD{k:Nat}(hw:∀c,I c->SameD w w' c):∀{ρ:PMap} (rs:List (List AV)) {b off:Nat},SameD w w' b->VRows I w k ρ rs b off->VRows I w' k ρ rs b off
 |ρ,[],b,off,hb,h=>by simp[VRows]
 |ρ,r::rs,b,off,hb,h=>by simp only[VRows]at h⊢;obtain⟨h0,h1,h2⟩:=h;exact⟨h0,VAt.monoD hw r hb h1,VRows.monoD hw rs hb h2⟩
end
theorem ORel.monoD{G:GTab (List AV)}{ρ:PMap}{m:Pl}(hw:∀c,I c->SameD w w' c)(o:AObj)(hb:w'.heap[m.blk]?=w.heap[m.blk]?)(h:ORel G I w ρ m o):ORel G I w' ρ m o:=by
 cases o with
 |row k aa=>obtain⟨h1,h2,⟨cI,e,h3,h4⟩,h5⟩:=h;exact⟨h1,h2,⟨cI,e,by rw[hb,h3],h4⟩,VRows.monoD hw aa (.inl hb) h5⟩
 |map ks vs bs br=>obtain⟨es,h1,h2,h3,h4⟩:=h;exact⟨es,by rw[hb,h1],VRels.monoD hw ks h2,VRels.monoD hw vs h3,h4⟩
 |siter s pos=>obtain⟨h0,t,h1,h2⟩:=h;exact⟨h0,t,by rw[hb,h1],h2⟩
 |uset ks=>obtain⟨es,cl,h1,h2⟩:=h;exact⟨es,cl,by rw[hb,h1],h2⟩
 |miter ks dC dK=>
  obtain⟨h0,h⟩:=h;rcases h with ⟨h1,h2,h3⟩|⟨c,es,cl,seen,h1,h2,h3,h4,h5⟩
  ·exact⟨h0,.inl ⟨h1,h2,by rw[hb,h3]⟩⟩
  ·exact⟨h0,.inr ⟨c,es,cl,seen,h1,(hw c h1).map h2,h3,by rw[hb,h4],h5⟩⟩
 |yloop y F st=>obtain⟨ri,r,h0,h1,h2,h3,h4,h5,h6,h7⟩:=h;exact⟨ri,r,h0,by rw[hb,h1],h2,h3,h4,h5,λs=>VRel.monoD hw _ (h6 s),h7⟩
end
section
variable {G:GTab (List AV)}{I K:Nat->Prop}{ρ:PMap}{h:FHeap}{w w':World}
theorem HRel.shut(r:HRel G I K ρ h w){S:Nat->Prop}(hS:∀c,S c->I c∧∃d,w.heap[c]?=some (.deferred d))(aT:w'.heap.size=w.heap.size)(hw:∀c,¬S c->w'.heap[c]?=w.heap[c]?) :
 HRel G I K ρ h w':=by
 have hD:∀c,SameD w w' c:=by
  intro c;by_cases hc:S c
  ·exact .inr (hS c hc).2
  ·exact .inl (hw c hc)
 refine⟨?_,r.inj,λb m hb=>by rw[aT];exact r.dom b m hb,λc hc=>by rw[aT];exact r.imm c hc,λc hc=>by rw[aT];exact r.kept c hc,r.apart,?_⟩
 ·intro b o hb;obtain⟨m,h1,h2,h3,h4⟩:=r.live b o hb;exact⟨m,h1,h2,h3,ORel.monoD (λc _=>hD c) o (hw _ (λhc=>h2 (hS _ hc).1)) h4⟩
 ·intro g cs hg;obtain⟨h1,h2⟩:=r.glob g cs hg;exact⟨h1,VAt.monoD (λc _=>hD c) cs (hD g) h2⟩
theorem c3c(r:HRel G I K ρ h w){ob:Obj}(hw:w'.heap=w.heap.push ob)(ht:w'.tape=w.tape)(fE:w'.os=w.os)(aU:w'.output=w.output) :
 Stepped G I K ρ w (λc=>I c∨c=w.heap.size) ρ h w':=by
 have aG:∀c,c<w.heap.size->w'.heap[c]?=w.heap[c]?:=by intro c hc;rw[hw,f9c,f2m (by omega)]
 refine⟨λ_ h=>.inl h,λ_ _ h=>h,⟨fE,ht,aU,by rw[hw];simp,?_⟩,⟨?_,r.inj,?_,?_,?_,?_,?_⟩⟩
 ·rintro c (hc|hc)
  ·exact aG c (r.imm c hc)
  ·exact aG c (r.kept c hc)
 ·intro b o hb;obtain⟨m,h1,h2,h3,h4⟩:=r.live b o hb;have hd:=r.dom b m h1;exact⟨m,h1,λhc=>hc.elim h2 (λe=>by omega),h3,ORel.mono o (λ_ h=>.inl h) (λc hc=>aG c (r.imm c hc)) (λ_ _ h=>h) (aG _ hd) h4⟩
 ·intro b m hb;have:=r.dom b m hb;rw[hw];simp only[Array.size_push];omega
 ·rintro c (hc|rfl)
  ·have:=r.imm c hc;rw[hw];simp only[Array.size_push];omega
  ·rw[hw];simp
 ·intro c hc;have:=r.kept c hc;rw[hw];simp only[Array.size_push];omega
 ·rintro c (hc|rfl) hk
  ·exact r.apart c hc hk
  ·have:=r.kept _ hk;omega
 ·intro g cs hg;obtain⟨h1,h2⟩:=r.glob g cs hg;exact⟨.inl h1,VAt.mono (λ_ h=>.inl h) (λc hc=>aG c (r.imm c hc)) cs (λ_ _ h=>h) (aG g (r.imm g h1)) h2⟩
theorem c0u(r:HRel G I K ρ h w){c0:Nat}(hI:¬I c0)(hK:¬K c0)(hl:∀b o m,h b=some o->ρ b=some m->m.blk≠c0)(aT:w'.heap.size=w.heap.size)
 (hw:∀c,c≠c0->w'.heap[c]?=w.heap[c]?)(ht:w'.tape=w.tape)(fE:w'.os=w.os)(aU:w'.output=w.output):Stepped G I K ρ w I ρ h w':=by
 have da:∀c,I c->w'.heap[c]?=w.heap[c]?:=λc hc=>hw c (λe=>hI (e▸hc));refine⟨λ_ h=>h,λ_ _ h=>h,⟨fE,ht,aU,by omega,?_⟩,⟨?_,r.inj,λb m hb=>by rw[aT];exact r.dom b m hb,λc hc=>by rw[aT];exact r.imm c hc,λc hc=>by rw[aT];exact r.kept c hc,r.apart,?_⟩⟩
 ·rintro c (hc|hc)
  ·exact da c hc
  ·exact hw c (λe=>hK (e▸hc))
 ·intro b o hb;obtain⟨m,h1,h2,h3,h4⟩:=r.live b o hb;exact⟨m,h1,h2,h3,ORel.mono o (λ_ h=>h) da (λ_ _ h=>h) (hw _ (hl b o m hb h1)) h4⟩
 ·intro g cs hg;obtain⟨h1,h2⟩:=r.glob g cs hg;exact⟨h1,VAt.mono (λ_ h=>h) da cs (λ_ _ h=>h) (da g h1) h2⟩
end
/-! ### a function's end -/
def a38:List Nat->World->World
 | [],w=>w
 |r::rs,w=>a38 rs (w.putObj r (.deferred none))
theorem b2h:∀(rs:List Nat) (w:World),(a38 rs w).heap.size=w.heap.size∧(a38 rs w).tape=w.tape∧(a38 rs w).os=w.os∧(a38 rs w).output=w.output∧
 ∀c,c∉rs->(a38 rs w).heap[c]?=w.heap[c]?
 | [],w=>⟨rfl,rfl,rfl,rfl,λ_ _=>rfl⟩
 |r::rs,w=>by obtain⟨h1,h2,h3,h4,h5⟩:=b2h rs (w.putObj r (.deferred none));refine⟨by rw[a38,h1];simp,by rw[a38,h2];rfl,by rw[a38,h3];rfl,by rw[a38,h4];rfl,λc hc=>?_⟩;simp only[f4h,not_or]at hc;rw[a38,h5 c hc.2,World.putObj_heap_other hc.1]
theorem b2n{P:Program}{n:Nat}{F:Fence}{fn:Func}{tmps:Array Value}{R:Ending->World->Prop}:∀(rs:List Nat) (w:World),rs.Nodup->(∀r∈rs,w.heap[r]?=some (.deferred (some [])))->
 (∃v,(results fn tmps).run P (a38 rs w) = .ok v (a38 rs w)∧R (.returned v) (a38 rs w))->LeavesInM F n P fn tmps R (rs.map (λr=>(⟨.collected r,#[]⟩:Deferred))) .returning w
 | [],w,_,_,h=>by simpa[LeavesInM,LeavesIn,a38]using h
 |r::rs,w,bn,hr,h=>by simp only[f1a,LeavesInM];refine⟨by simp,.inl ⟨r,w.putObj r (.deferred none),rfl,run_takeDeferred (hr r (by simp)),?_⟩⟩;have bn:=f8j.1 bn;refine b2n rs _ bn.2 (λq hq=>?_) h;have aw:q≠r:=λe=>bn.1 (by rw[<-e];exact hq);rw[World.putObj_heap_other aw];exact hr q (by simp[hq])
/-! ### a scope -/
theorem b03{F:Fence}{n:Nat}{P:Program}{Q:Exit->Act->World->Prop}{a:Act}{w:World}{c:Code}(h:c.wpIn F n P (Exit.noGoto Q) a w):(Code.scope c).wpIn F n P Q a w:=by
 intro b k cs lx hb hr;have h0:(lone (b.atR a (.code (.scope c)::k)) cs w).fenced P F:=fenced_calm hb hr rfl;have s0:step P (lone (b.atR a (.code (.scope c)::k)) cs w) = .next (lone (b.atR a (.code c :: .inScope c::k)) cs w):=step_lone_go (by simp[stepG,stepG.exec,Frame.atR]);obtain⟨e,a₁,w₁,hq,bz⟩:=h b (.inScope c::k) cs lx hb hr;have s1:step P (lone (b.atR a₁ (.inScope c::k)) cs w₁) = .next (lone (b.atR a₁ k) cs w₁):=step_lone_go (by simp[stepG,stepG.exec,Frame.atR]);cases e with
 |normal=>exact⟨.normal,a₁,w₁,hq,.head h0 s0 (StepsIn.trans bz (.one (fenced_calm hb hr rfl) s1))⟩
 |exit id=>
  have hx:exitTo id (.inScope c::k)=exitTo id k:=by simp[exitTo]
  exact⟨.exit id,a₁,w₁,hq,λk' hk=>.head h0 s0 (bz.1 k' (by rw[hx];exact hk)),
   λkd hk=>let⟨k₁,h1,h2⟩:=bz.2 kd (by rw[hx];exact hk);⟨k₁,h1,.head h0 s0 h2⟩⟩
 |goto l=>exact hq.elim
 |ret=>exact⟨_,a₁,w₁,hq,.of_steps (.one h0 s0) bz⟩
 |panic ch=>exact⟨_,a₁,w₁,hq,.of_steps (.one h0 s0) bz⟩
 |outgrown=>exact⟨_,a₁,w₁,hq,.of_steps (.one h0 s0) bz⟩
end Go.Ax
/- AxCode: statements. -/
namespace Go.Ax
def a2u:Bool->Code->Bool
 |top,.region _ ap ah=>bif (d6d ap.toList).isSome then top && !ah else bif ah then c6e ap.toList else true
 |top,.seq a b=>a2u top a&&a2u false b
 |_,.cond _ a b=>a2u false a&&a2u false b
 |_,.block _ b=>a2u false b
 |_,.loop b=>a2u (a84 b).isSome b
 |_,.scope b=>a2u false b
 |_,_=>true
def a8z(c:Code):Bool:=a2u false c
def AExit.conv:AExit->Exit
 |.normal=>.normal
 |.exit id=>.exit id
 |.ret=>.ret
def e3p(E:Env)(call:FuncId->List AV->a03->Option (AV×a03))(fid:Nat)(ro:Option Nat)(e:Entry)(N lf:Nat)(keep:Nat->List Nat)(c:Code):Prop:=
 ∀{R:Type} {cur:Nat},RFOk E fid N keep ro cur c->∀{k:AExit->Frm->a03->Option R} {r:R} {Q:Exit->Act->World->Prop},(∀x F H I ρ a w,Now E e N F H I ρ a w->k x F H=some r->Q x.conv a w)->
 ∀{F:Frm} {H:a03} {I:Nat->Prop} {ρ:PMap} {a:Act} {w:World},Now E e N F H I ρ a w->a4a E e.m N keep call lf cur c F H k=some r->c.wpIn (wf ro) 0 E.P Q a w
/-! ### a loop over a set -/
theorem c22(x:Int):∀(a b:List Int),a++x::b∈c8k x (a++b)
 | [],[]=>by simp[c8k]
 | [],y::b=>by simp[c8k]
 |y::a,b=>by simp only[f2o,c8k,f4h];exact .inr (f7b (c22 x a b))
theorem b7a:∀{ks o:List Int},o.Perm ks->o∈b7b ks
 | [],o,h=>by rw[h.eq_nil];simp[b7b]
 |x::ks,o,h=>by obtain⟨a,b,rfl⟩:=List.append_of_mem (h.mem_iff.2 (f7l));have h2:(a++b).Perm ks:=(List.perm_middle.symm.trans h).cons_inv;simp only[b7b,f9k];exact⟨a++b,b7a h2,c22 x a b⟩
theorem c58:∀{F G:a03},c7n F G=true->F=G
 | [],[],_=>rfl
 |a::F,b::G,h=>by simp only[c7n,f1d]at h;rw[c57 _ _ h.1,c58 h.2]
 | [],_::_,h=>by simp[c7n]at h
 |_::_,[],h=>by simp[c7n]at h
theorem c59{x:Option R3}{r:R3}(h:e0n x r=true):x=some r:=by
 unfold e0n at h;split at h
 case h_2=>cases h
 rename_i e F H;simp only[f1d]at h;obtain⟨e',F',H'⟩:=r;have he:e=e':=by have:=h.1;cases e<;>cases e'<;>simp[e5o]at this<;>first|rfl|rw[this]
 rw[he,b8v h.2.1,c58 h.2.2]
section
variable {E:Env}
theorem b1f{H:a03}{b x:Nat}{o:Option AObj}:a02 (H.set b o) x=if b=x∧b<H.length then o else a02 H x:=by
 unfold a02;rw[f3a];by_cases h:b=x
 ·subst h;by_cases h2:b<H.length
  ·simp[h2]
  ·simp[h2]
 ·simp[h]
theorem b9i{H:a03}{b:Nat}{o:AObj}(h:a02 H b=some o):b<H.length:=by
 unfold a02 at h;rcases f6u b H.length with h1|h1
 ·exact h1
 ·rw[f2s h1]at h;simp at h
theorem Now.dropIt{e:Entry}{N:Nat}{F:Frm}{H:a03}{I:Nat->Prop}{ρ:PMap}{a:Act}{w:World}(h:Now E e N F H I ρ a w)(it:Nat):Now E e N F (Ax.dropIt F H it) I ρ a w:=by
 unfold Ax.dropIt;split
 ·rename_i b i o hb;refine{ h with rel:=h.rel.fewer (λx ob hx=>?_),nrel:=by rw[f4q];exact h.nrel,low:=by rw[f4q];exact h.low };rw[b1f]at hx;split at hx
  ·cases hx
  ·exact hx
 ·exact h
theorem Now.step{e:Entry}{N:Nat}{F:Frm}{H:a03}{I:Nat->Prop}{ρ:PMap}{a:Act}{w w':World}(h:Now E e N F H I ρ a w){b:Nat}{o:AObj}(hb:b<H.length)(st:Stepped E.G I e.K ρ w I ρ ((a02 H).eff H.length (.set b o)) w')
 {nx:Nat}(il:nx<N){v:AV}{c:Value}(hv:VRel I w' ρ v c):Now E e N (a42 F (some nx) v) (H.set b (some o)) I ρ (a.put (some nx) c) w':=by
 have hl:(H.set b (some o)).length=H.length:=f4q;refine⟨h.imm,h.map,h.ext.trans h.imm st.ext,st.rel.fewer ?_,by rw[hl];exact h.nrel,?_,by rw[hl];exact h.low,by rw[a3f];exact h.marks.mono (λ_ h=>h) (λc hc=>st.ext.keep c (.inl hc))⟩
 ·exact c6d H (.set b o)
 ·exact(FRel.mono h.frm (λv c hv=>st.vrel hv)).set (by intro s hs;cases hs;exact il) hv
theorem d6l(ok:EnvOk E){call:FuncId->List AV->a03->Option (AV×a03)}(af:a45 E call){fid:Nat}{ro:Option Nat}{e:Entry}{N lf:Nat}{keep:Nat->List Nat}{al:Code}(du:e3p E call fid ro e N lf keep al)
 {id:Nat}{ap:Array Oper}{it nx:Nat}{n6:List Oper}(il:d6d ap.toList=some (it,nx,n6)){R:Type}{cur:Nat}(aI:RFOk E fid N keep ro cur al){k:AExit->Frm->a03->Option R}{r:R}{Q:Exit->Act->World->Prop}
 (hQ:∀x F H I ρ a w,Now E e N F H I ρ a w->k x F H=some r->Q x.conv a w){F:Frm}{H:a03}{I:Nat->Prop}{ρ:PMap}{a:Act}{w:World}(aj:Now E e N F H I ρ a w)
 (ae:c89 e.m it (keep cur) (λF H k=>a4a E e.m N keep call lf cur (.seq (.region id ap false) al) F H k) F H k=some r):(Code.loop (.seq (.region id ap false) al)).wpIn (wf ro) 0 E.P Q a w:=by
 obtain⟨o0,eC,eD,ny,iM⟩:∃o0,ap.toList=o0::n6∧o0.op = .next (.tmp it) false∧o0.dst=some nx∧o0.guard=none:=by
  unfold d6d at il;split at il
  ·cases il
  ·rename_i o sY he;split at il
   ·rename_i um vK h1 h2 h3;cases il;exact⟨o,he,h1,h2,h3⟩
   ·cases il
 unfold c89 at ae;split at ae
 case h_2=>cases ae
 rename_i ks d6;split at ae
 case h_2=>cases ae
 rename_i r0 rs lE;rw[cond_eq_ite]at ae;split at ae
 case isFalse=>cases ae
 rename_i aW;have aH:∀o,o.Perm ks->a5y e.m it (keep cur) ks (λF H k=>a4a E e.m N keep call lf cur (.seq (.region id ap false) al) F H k) [] o F H=some r0:=by
  intro o ho;have hm:=f7b (f:=λo=>a5y e.m it (keep cur) ks (λF H k=>a4a E e.m N keep call lf cur (.seq (.region id ap false) al) F H k) [] o F H) (b7a ho);rw[lE]at hm;rcases f4h.1 hm with h|h
  ·exact h
  ·exact c59 (f4l.1 aW _ h)
 refine c0m (n:=ks.length+1) (λn a w=>∃F H I ρ aP R,Now E e N F H I ρ a w∧R.length+1=n∧(aP++R).Perm ks∧
  ∀o,o.Perm R->a5y e.m it (keep cur) ks (λF H k=>a4a E e.m N keep call lf cur (.seq (.region id ap false) al) F H k) aP o F H=some r0) ?_ ?_ ⟨F,H,I,ρ,[],ks,aj,rfl,List.Perm.refl _,aH⟩
 ·rintro n a w ⟨F,H,I,ρ,aP,R,aj,hn,gM,aH⟩
  -- the head
  have head:∀{jN:Option Int} {e' F' H'},b2i e.m it (keep cur) ks aP (λF H k=>a4a E e.m N keep call lf cur (.seq (.region id ap false) al) F H k) jN F H=some (e',F',H')->
   ∃F1 H1 ρ1 b dK,gcD e.m (keep cur) F H=some (F1,H1)∧Now E e N F1 H1 I ρ1 a w∧a35 F1 it = .ptr b 0 0∧a02 H1 b=some (.miter ks aP dK)∧
    a4a E e.m N keep call lf cur (.seq (.region id ap false) al) F1 (H1.set b (some (.miter ks aP (some jN)))) (λe F' H'=>some (e,F',H'))=some (e',F',H'):=by
   intro jN e' F' H' hr;unfold b2i at hr;split at hr
   case h_2=>cases hr
   rename_i F1 H1 hg;split at hr
   case h_2=>cases hr
   rename_i H2 ha;unfold f7z at ha;split at ha
   case h_2=>cases ha
   rename_i b hb;split at ha
   case h_2=>cases ha
   rename_i ld dC dK dP;rw[cond_eq_ite]at ha;split at ha
   case isFalse=>cases ha
   rename_i hc;simp only[f1d,f2y]at hc;obtain⟨rfl,rfl⟩:=hc;cases ha;have eG:=hg;unfold gcD at eG;dsimp only at eG;rw[cond_eq_ite]at eG;split at eG
   case isFalse=>cases eG
   rename_i hc;simp only[f1d,f4l,f7k]at hc;cases eG;obtain⟨ρ',dZ⟩:=(aj.keep (keep cur)).gc (a9l hc.1.1) hc.1.2;exact⟨_,_,ρ',b,dK,hg,dZ,hb,dP,hr⟩
  -- one round,after the i6
  have ji:∀{jN:Option Int} {e':AExit} {F':Frm} {H':a03} {F1:Frm} {H1:a03} {ρ1:PMap} {b:Nat} {dK:Option (Option Int)} {v:AV} {o1:AObj} {c:Value} {w':World},
   Now E e N F1 H1 I ρ1 a w->a35 F1 it = .ptr b 0 0->a02 H1 b=some (.miter ks aP dK)->
   (d6h F1 (H1.set b (some (.miter ks aP (some jN)))) it=some (v,(H1.set b (some (.miter ks aP (some jN)))).set b (some o1)))->
   (Instr.next (a.eval (.tmp it)) false o0.type).run E.P w = .ok c w'->Stepped E.G I e.K ρ1 w I ρ1 ((a02 H1).eff H1.length (.set b o1)) w'->VRel I w' ρ1 v c->
   a4a E e.m N keep call lf cur (.seq (.region id ap false) al) F1 (H1.set b (some (.miter ks aP (some jN)))) (λe F' H'=>some (e,F',H'))=some (e',F',H')->
   ∀{Q':Exit->Act->World->Prop},(∀I ρ a w,Now E e N F' H' I ρ a w->Q' e'.conv a w)->(Code.seq (.region id ap false) al).wpIn (wf ro) 0 E.P Q' a w:=by
   intro jN e' F' H' F1 H1 ρ1 b dK v o1 c w' cC hb dP jt pw az hv hr Q' qJ;unfold a4a at hr;unfold a4a at hr;rw[il]at hr;simp only[Bool.false_or,cond_eq_ite]at hr;split at hr
   case isTrue=>cases hr
   rename_i ai;have ai:nx<N:=by simpa[f4o]using ai
   rw[jt]at hr;simp only[List.set_set]at hr;have oq:=cC.step (b9i dP) az ai hv;refine wpIn_seq (wpIn_region ?_);have ak:List.range ap.size=0::List.range' 1 n6.length:=by rw[List.range_eq_range',<-f4p,eC,f1c,List.range'_succ]
   rw[ak];have ho:ap[0]?=some o0:=by
    have:ap.toList[0]?=some o0:=by rw[eC];rfl
    simpa using this
   refine b6q ho (by simp[Region.wanted,iM]) ?_;refine a8i (by rw[eD];intro c hc;cases hc) ?_;have hx:(execOp a.eval o0).run E.P w = .ok (.value c) w':=by
    have:execOp a.eval o0=(do pure (.value (<-Instr.next (a.eval (.tmp it)) false o0.type))):=by obtain⟨d,op,ty,pos,after,guard⟩:=o0;simp only at eD;subst eD;rfl
    rw[this];simp[pw]
   rw[hx,Oper.uponIn_value,ny];refine b1n ok af (ap:=ap) (k:=λF' H'=>a4a E e.m N keep call lf cur al F' H' λe F' H'=>some (e,F',H')) ?_ n6 1 _ _ _ _ _ _ _ (by rw[eC];rfl) oq hr;intro F H I ρ a w hn hk;refine du aI ?_ hn hk;intro x F H I ρ a w hn hk;cases hk;exact qJ I ρ a w hn
  -- what the iterator answers
  have i6:∀{F1:Frm} {H1:a03} {ρ1:PMap} {b:Nat} {dK:Option (Option Int)},Now E e N F1 H1 I ρ1 a w->a35 F1 it = .ptr b 0 0->a02 H1 b=some (.miter ks aP dK)->
   (∃i,i∈ks∧i∉aP∧∃w',(Instr.next (a.eval (.tmp it)) false o0.type).run E.P w = .ok (.tuple #[.bool true,.int .i64 i,.bool true]) w'∧Stepped E.G I e.K ρ1 w I ρ1 ((a02 H1).eff H1.length (.set b (.miter ks (aP++[i]) none))) w')∨
    ((∀i∈ks,i∈aP)∧∃w',(Instr.next (a.eval (.tmp it)) false o0.type).run E.P w = .ok (.tuple #[.bool false]) w'∧Stepped E.G I e.K ρ1 w I ρ1 ((a02 H1).eff H1.length (.set b (.miter ks aP none))) w'):=by
   intro F1 H1 ρ1 b dK cC hb dP;have hp:=cC.frm.2 it;rw[hb]at hp;simp only[VRel]at hp;obtain⟨m,hm,fi⟩:=hp;obtain⟨m',bl,_,_,h0,_⟩:=cC.rel.live b _ dP;obtain rfl:m=m':=z9o (hm.symm.trans bl);have:a.eval (.tmp it) = .pointer (some ⟨m.blk,0,none⟩):=by show a.tmps.getD it undef=_;rw[fi,h0];simp
   rw[this];exact d6g cC.rel dP hm o0.type
  have nodup:∀{H1:a03} {ρ1:PMap} {F1:Frm} {b:Nat} {dK:Option (Option Int)},Now E e N F1 H1 I ρ1 a w->a02 H1 b=some (.miter ks aP dK)->ks.Nodup:=by
   intro H1 ρ1 F1 b dK cC dP;obtain⟨m',bl,_,_,h0,ho⟩:=cC.rel.live b _ dP;rcases ho with ⟨h1,_⟩|⟨c,es,cl,seen,_,_,hs,_⟩
   ·rw[h1];exact List.nodup_nil
   ·exact hs.2.2.1
  have aF:∀{H1:a03} {b:Nat} {dK:Option (Option Int)} (jN:Option Int),a02 H1 b=some (.miter ks aP dK)->a02 (H1.set b (some (.miter ks aP (some jN)))) b=some (.miter ks aP (some jN)):=by intro H1 b dK jN dP;rw[b1f,f2w ⟨rfl,b9i dP⟩]
  cases R with
  |nil=>
   have h1:=aH [] (List.Perm.refl _);unfold a5y at h1;split at h1
   ·cases h1
   ·rename_i e' F' H' aw hr;cases h1;obtain⟨F1,H1,ρ1,b,dK,hg,cC,hb,dP,dM⟩:=head hr;rcases i6 cC hb dP with ⟨i,hi,pv,_⟩|⟨_,w',mV,az⟩
    ·have:=gM.mem_iff.2 hi;rw[f1b]at this;exact absurd this pv
    ·refine ji (v:=.tuple [.bool false]) (c:=.tuple #[.bool false]) cC hb dP (by unfold d6h;rw[hb,];simp only[aF none dP]) mV az (by simp only[VRel];exact⟨_,rfl,by simp only[VRels];exact⟨_,_,rfl,by simp[VRel],rfl⟩⟩) dM ?_;intro I ρ a w hn;have hq:=hQ e' F' _ I ρ a w (hn.dropIt it) ae;cases e' with
     |normal=>exact(aw rfl).elim
     |exit id=>exact hq
     |ret=>exact hq
   ·cases h1
  |cons x R=>
   have h1:=aH (x::R) (List.Perm.refl _);have i9:∃e' F' H',b2i e.m it (keep cur) ks aP (λF H k=>a4a E e.m N keep call lf cur (.seq (.region id ap false) al) F H k) (some x) F H=some (e',F',H'):=by
    unfold a5y at h1;split at h1
    ·rename_i F' H' hr;exact⟨_,_,_,hr⟩
    ·cases h1
   obtain⟨_,_,_,i9⟩:=i9;obtain⟨F1,H1,ρ1,b,dK,hg,cC,hb,dP,_⟩:=head i9;have bn:=nodup cC dP;rcases i6 cC hb dP with ⟨i,hi,pv,w',mV,az⟩|⟨pZ,_⟩
   ·have uV:i∈x::R:=by
     rcases f4s.1 (gM.mem_iff.2 hi)with h|h
     ·exact absurd h pv
     ·exact h
    have fi:(i::(x::R).erase i).Perm (x::R):=(List.perm_cons_erase uV).symm;have h2:=aH _ fi;unfold a5y at h2;split at h2
    case h_2=>cases h2
    rename_i F' H' hr;obtain⟨wm,vG,ρ1',b',vF,eG,uK,a6,uX,dM⟩:=head hr;rw[hg]at eG;cases eG;rw[hb]at a6;cases a6;refine ji (v:=.tuple [.bool true,.int .i64 i,.bool true]) (c:=.tuple #[.bool true,.int .i64 i,.bool true]) cC hb dP (by unfold d6h;rw[hb];simp only[aF (some i) dP]) mV az
     (by simp only[VRel];exact⟨_,rfl,by simp only[VRels];exact⟨_,_,rfl,by simp[VRel],_,_,rfl,by simp[VRel],_,_,rfl,by simp[VRel],rfl⟩⟩) dM ?_
    intro I2 ρ2 a2 w2 jv;refine⟨F',H',I2,ρ2,aP++[i],(x::R).erase i,jv,?_,?_,?_⟩
    ·have:=fi.length_eq;simp only[f1c]at this hn⊢;omega
    ·rw[e12];exact(fi.append_left aP).trans gM
    ·intro o ho;have h3:=aH (i::o) ((ho.cons i).trans fi);unfold a5y at h3;rw[hr]at h3;exact h3
   ·have hx:x∈ks:=gM.mem_iff.1 (by simp);have lC:=gM.nodup_iff.2 bn;rw[List.nodup_append]at lC;exact absurd rfl (lC.2.2 x (pZ x hx) x (by simp))
 ·rintro a w ⟨F,H,I,ρ,aP,R,_,hn,_⟩
  omega
/-! ### a loop over a function -/
theorem b3y:∀(F:List (Nat×AV)) (s:Nat),c0x F s=a35 F s
 | [],s=>rfl
 |(t,v)::F,s=>by simp only[c0x,a35,b3y F s]
theorem c9s{H:a03}{b:Nat}{st:YSt}(h:e86 H b=some st):∃y F,a02 H b=some (.yloop y F st):=by
 unfold e86 at h;split at h
 ·rename_i y F vH hb;cases h;exact⟨y,F,hb⟩
 ·cases h
theorem c0l{H H':a03}{b:Nat}{old new:YSt}(h:e00 H b old new=some H'):∃y F,a02 H b=some (.yloop y F old)∧H'=H.set b (some (.yloop y F new)):=by
 unfold e00 at h;split at h
 ·rename_i y F st hb;rw[cond_eq_ite]at h;split at h
  ·rename_i az;have az:=of_decide_eq_true az;subst az;cases h;exact⟨y,F,hb,rfl⟩
  ·cases h
 ·cases h
theorem Now.yput{e:Entry}{N:Nat}{F:Frm}{H:a03}{I:Nat->Prop}{ρ:PMap}{a:Act}{w:World}(h:Now E e N F H I ρ a w){b y:Nat}{F0:Frm}{old new:YSt}{m:Pl}{r r':Loop}
 (hb:a02 H b=some (.yloop y F0 old))(hm:ρ b=some m)(hr:w.heap[m.blk]?=some (.loop r))(bP:r'.tmps=r.tmps∧r'.params=r.params∧r'.assign=r.assign∧r'.body=r.body)
 (az:match new with
  |.ready=>r'.state = .ready∧r'.pending=none
  |.busy=>r'.state = .busy
  |.done j=>r'.state = .done∧r'.pending=some (c5j j)):Now E e N F (H.set b (some (.yloop y F0 new))) I ρ a (w.putObj m.blk (.loop r')):=by
 obtain⟨m',bl,dY,gx,ri,r0,h0,h1,h2,h3,h4,h5,h6,h7⟩:=h.rel.live b _ hb;obtain rfl:m=m':=z9o (hm.symm.trans bl);obtain rfl:r=r0:=by rw[hr]at h1;cases h1;rfl
 have ai:=h.rel.dom b m hm;have da:∀c,I c->(w.putObj m.blk (.loop r')).heap[c]?=w.heap[c]?:=λc hc=>World.putObj_heap_other (λe=>dY (e▸hc));have st:Stepped E.G I e.K ρ w I ρ ((a02 H).eff H.length (.set b (.yloop y F0 new))) (w.putObj m.blk (.loop r')):=by refine a2d h.rel hb hm (by simp) (λc hc=>World.putObj_heap_other hc) rfl rfl rfl ?_;refine⟨ri,r',h0,World.putObj_heap_same ai,by rw[bP.1];exact h2,by rw[bP.2.1];exact h3,by rw[bP.2.2.1];exact h4,by rw[bP.2.2.2];exact h5,λs=>?_,az⟩;rw[bP.1];exact VRel.mono (λ_ h=>h) da _ (λ_ _ h=>h) (h6 s)
 have hl:(H.set b (some (AObj.yloop y F0 new))).length=H.length:=f4q;exact⟨h.imm,h.map,h.ext.trans h.imm st.ext,st.rel.fewer (c6d H (.set b (.yloop y F0 new))),by rw[hl];exact h.nrel,FRel.mono h.frm (λv c hv=>st.vrel hv),by rw[hl];exact h.low,h.marks.mono (λ_ h=>h) (λc hc=>st.ext.keep c (.inl hc))⟩
def YSt.jump:YSt->Option Code
 |.done j=>some (c5j j)
 |_=>none
theorem f0v(ok:EnvOk E){call:FuncId->List AV->a03->Option (AV×a03)}(af:a45 E call){fid:Nat}{e:Entry}{N lf:Nat}{keep:Nat->List Nat}{g:Operand}{ps:Array Tmp}{asg body:Code}
 {R:Type}{cur:Nat}(aI:RFOk E fid N keep none cur (.rangeFunc g ps asg body)){k:AExit->Frm->a03->Option R}{r:R}{Q:Exit->Act->World->Prop}(hQ:∀x F H I ρ a w,Now E e N F H I ρ a w->k x F H=some r->Q x.conv a w)
 {F:Frm}{H:a03}{I:Nat->Prop}{ρ:PMap}{a:Act}{w:World}(aj:Now E e N F H I ρ a w)(ae:a4a E e.m N keep call lf cur (.rangeFunc g ps asg body) F H k=some r) :
 (Code.rangeFunc g ps asg body).wpIn (wf none) 0 E.P Q a w:=by
 unfold a4a at ae;split at ae
 case h_2=>cases ae
 rename_i gf fs cs y iN hy;rw[cond_eq_ite]at ae;split at ae
 case isFalse=>cases ae
 rename_i hc;simp only[f1d,f6z]at hc;obtain⟨hg,_⟩:=hc;split at ae
 case h_2=>cases ae
 rename_i v H2 σ eS;obtain⟨y',jU,mi⟩:=aI.2 (cur,⟨N,ps.toList,asg,body,fid⟩) (by simp[rfs]);rw[hy]at jU;cases jU;have hf:=b4j aj.rel aj.frm g;rw[iN]at hf;simp only[VRel]at hf;obtain⟨dj,aO,iP,lL,cL⟩:=hf;refine wpIn_rangeFunc (F:=Fence.wide) (λfn _=>?_)
 let rec0:Loop:={ state:=.ready,pending:=none,fn,tmps:=a.tmps,params:=ps,assign:=asg,body,defers:=w.heap.size }
 let w1:World:=w.alloc (.deferred (some []))
 let w2:World:=w1.alloc (.loop rec0)
 let m:Pl:=⟨w.heap.size+1,0,0,0⟩
 let Y:AObj:=.yloop y (a2c (keep cur) F) .ready
 have dX:w1.heap.size=w.heap.size+1:=by simp[w1]
 have n5:Stepped E.G I e.K ρ w (λc=>I c∨c=w.heap.size) ρ (a02 H) w1:=c3c aj.rel (ob:=.deferred (some [])) rfl rfl rfl rfl;have aG:∀b q,ρ b=some q->(ρ.set H.length m) b=some q:=PMap.set_old (aj.nrel _ (f2q _));have eO:∀c,c<w1.heap.size->w2.heap[c]?=w1.heap[c]?:=by intro c hc;show(w1.heap.push _)[c]?=_;rw[f9c,f2m (by omega)]
 have qq:Stepped E.G (λc=>I c∨c=w.heap.size) e.K ρ w1 (λc=>I c∨c=w.heap.size) (ρ.set H.length m) ((a02 H).eff H.length (.new Y)) w2:=by
  refine a2q n5.rel (b8j H) (aj.nrel _ (f2q _)) (ob:=.loop rec0) rfl rfl rfl rfl dX.symm ?_;refine⟨_,rec0,mi,?_,aj.frm.1,rfl,rfl,rfl,λs=>?_,rfl,rfl⟩
  ·have:=World.alloc_heap_new w1 (.loop rec0);rw[dX]at this;exact this
  ·rw[b3y,b5b];split
   ·exact VRel.mono (λc hc=>hc) (λc hc=>eO c (n5.rel.imm c hc)) _ aG (n5.vrel (aj.frm.2 s))
   ·simp[VRel]
 have pa:HRel E.G (λc=>I c∨c=w.heap.size) e.K (ρ.set H.length m) (a02 (H++[some Y])) w2:=qq.rel.fewer (c6d H (.new Y));have jv:NRel (ρ.set H.length m) (H++[some Y]).length:=by intro b hb;simp only[f2n,f1c,f1h]at hb;simp only[PMap.set];rw[f2m (by omega)];exact aj.nrel b (by omega)
 have up:∀{v:AV} {c:Value},VRel I w ρ v c->VRel (λc=>I c∨c=w.heap.size) w2 (ρ.set H.length m) v c:=λhv=>qq.vrel (n5.vrel hv);have sW:∀{v:List AV} {c:List Value},VRels I w ρ v c->VRels (λc=>I c∨c=w.heap.size) w2 (ρ.set H.length m) v c:=λhv=>qq.vrels (n5.vrels hv);have aJ:VRels (λc=>I c∨c=w.heap.size) w2 (ρ.set H.length m) (fs++[.yfn H.length]++cs) (dj ++ #[Value.func (.yield (w.heap.size+1)) #[] #[]]++aO).toList:=by simp only[Array.toList_append];refine VRels.append (VRels.append (sW lL) ?_) (sW cL);simp only[VRels];exact⟨_,_,rfl,by simp only[VRel];exact⟨m,by simp[PMap.set],rfl⟩,rfl⟩
 have iT:=b28 (af gf) eS pa jv aJ;obtain⟨i,hi⟩:=f1j.1 hg;rw[b2y (c8p ok hi)]at iT;have bz:(dj ++ #[Value.func (.yield (w.heap.size+1)) #[] #[]]++aO).toList.toArray=dj ++ #[Value.func (.yield (w.heap.size+1)) #[] #[]]++aO:=by apply f9b;simp
 rw[bz]at iT;refine⟨w.heap.size+1,[{ target:=.collected w.heap.size,args:=#[] }],w2,⟨.fn (.func gf) aO,dj ++ #[Value.func (.yield (w.heap.size+1)) #[] #[]]⟩,w2,gf,_,w2,run_enterLoop_outer fn a.tmps ps asg body,?_,λ_ _=>trivial,?_,λh=>by simp[Fence.wide]at h,callsIn_wide.2 (Calls.mono iT ?_)⟩
 ·have si:a.eval (.const (Value.func (.yield (w.heap.size+1)) #[] #[]))=Value.func (.yield (w.heap.size+1)) #[] #[]:=rfl;simp only[resolve,rangeCall,iP,Deferred.ofValue,List.map_toArray,f1a,f1g,si];rfl
 ·simp only[invoke];exact a49 ok hg _
 rintro en w3 ⟨c,I',ρ',rfl,aE,dk⟩
 rw[f2n,List.length_singleton]at aE
 -- behind the loop
 have fin:∀(st:YSt),e86 H2 H.length=some st->∀(oo:st≠ .busy),∃w4,(Instr.endLoop (w.heap.size+1)).run E.P w3 = .ok st.jump w4∧
  Now E e N F (H2.set H.length none) I' ρ' { a with defers:=[{ target:=.collected w.heap.size,args:=#[] }]++a.defers } w4:=by
  intro st az oo;obtain⟨y1,F1,hb⟩:=c9s az;obtain⟨m1,db,dY,gx,vI,r1,g0,g1,g2,g3,g4,g5,g6,g7⟩:=aE.rel.live _ _ hb;have hm:ρ' H.length=some m:=by rw[aE.map _ (by omega)];simp[PMap.set]
  obtain rfl:m=m1:=z9o (hm.symm.trans db);have iC:r1.state≠ .busy∧r1.pending=st.jump:=by
   cases st with
   |ready=>exact⟨by rw[g7.1];simp,g7.2⟩
   |busy=>exact absurd rfl oo
   |done j=>exact⟨by rw[g7.1];simp,g7.2⟩
  have r8:=run_endLoop (P:=E.P) g1 iC.1;refine⟨w3.putObj m.blk (.loop { r1 with state:=.exhausted }),by rw[<-iC.2];exact r8,?_⟩;have dz:=aE.low;have vg:H.length<H2.length:=by omega
  have sX:Stepped E.G I' e.K ρ' w3 I' ρ' (a02 (H2.set H.length none)) (w3.putObj m.blk (.loop { r1 with state:=.exhausted })):=by
   refine c0u (c0:=m.blk) (aE.rel.fewer ?_) dY gx ?_ (by simp) (λc hc=>World.putObj_heap_other hc) rfl rfl rfl
   ·intro b o hb;rw[b1f]at hb;split at hb
    ·cases hb
    ·exact hb
   ·intro b o q a6 hq he;rw[b1f]at a6;split at a6
    ·cases a6
    ·rename_i aw;have:=aE.rel.inj b H.length q m (by simp[a6]) (by simp[hb]) hq hm he;exact aw ⟨this.symm,vg⟩
  have jf:∀c,I c->I' c:=λc hc=>aE.imm c (.inl hc);have cV:Ext I e.K w (w3.putObj m.blk (.loop { r1 with state:=.exhausted })):=((n5.ext.trans (λ_ h=>.inl h) qq.ext).trans (λ_ h=>.inl h) aE.ext).trans jf sX.ext;have hρ':∀b q,ρ b=some q->ρ' b=some q:=by
   intro b q hq;have dm:b<H.length:=by
    rcases f6u b H.length with h|h
    ·exact h
    ·rw[aj.nrel b h]at hq;cases hq
   rw[aE.map b (by omega)];exact aG b q hq
  have hl:(H2.set H.length none).length=H2.length:=f4q;refine⟨λc hc=>jf c (aj.imm c hc),λb hb=>?_,aj.ext.trans aj.imm cV,sX.rel,by rw[hl];exact aE.nrel,FRel.mono aj.frm (λv c hv=>VRel.mono jf (λc hc=>cV.keep c (.inl hc)) v hρ' hv),by rw[hl];have:=aj.low;omega,?_⟩
  ·have:=aj.low;rw[aE.map b (by omega)];simp only[PMap.set];rw[f2m (by omega)];exact aj.map b hb
  ·obtain⟨rs,q1,q2,q3⟩:=aj.marks;refine⟨w.heap.size::rs,by rw[q1];rfl,f8j.2 ⟨λhm=>?_,q2⟩,?_⟩
   ·have:=(f5b.1 (q3 _ hm).2.2).1;omega
   ·intro q hq;rcases f4h.1 hq with rfl|hq
    ·refine⟨aE.imm _ (.inr rfl),aj.ext.size,?_⟩;rw[World.putObj_heap_other (by show w.heap.size≠w.heap.size+1;omega),aE.ext.keep _ (.inl (.inr rfl)),eO _ (by omega)];exact World.alloc_heap_new w _
    ·obtain⟨p1,p2,p3⟩:=q3 q hq;exact⟨jf q p1,p2,by rw[cV.keep q (.inl p1)];exact p3⟩
 show rangePost Fence.wide 0 E.P (w.heap.size+1) Q _ (.returned c) w3;split at ae
 ·rename_i az;obtain⟨w4,h1,h2⟩:=fin _ az (by simp);exact⟨none,w4,h1,hQ .normal _ _ _ _ _ _ h2 ae⟩
 ·rename_i az;obtain⟨w4,h1,h2⟩:=fin _ az (by simp);exact⟨some .ret,w4,h1,wpIn_ret (hQ .ret _ _ _ _ _ _ h2 ae)⟩
 ·rename_i id az;obtain⟨w4,h1,h2⟩:=fin _ az (by simp);exact⟨some (.exit id),w4,h1,wpIn_exit (hQ (.exit id) _ _ _ _ _ _ h2 ae)⟩
 ·cases ae
theorem d7s(ok:EnvOk E){call:FuncId->List AV->a03->Option (AV×a03)}(af:a45 E call){fid:Nat}{ro:Option Nat}{e:Entry}{N lf:Nat}{keep:Nat->List Nat}:∀(c:Code),
 (a2u false c=true->e3p E call fid ro e N lf keep c)∧(∀x r,c = .seq x r->a2u false r=true->e3p E call fid ro e N lf keep r):=by
 intro c
 induction c with
 |skip=>exact⟨λ_ R cur aI k r Q hQ F H I ρ a w aj ae=>wpIn_skip (hQ .normal F H I ρ a w aj ae),λ_ _ h=>by cases h⟩
 |label l=>exact⟨λ_ R cur aI k r Q hQ F H I ρ a w aj ae=>wpIn_label (hQ .normal F H I ρ a w aj ae),λ_ _ h=>by cases h⟩
 |exit id=>exact⟨λ_ R cur aI k r Q hQ F H I ρ a w aj ae=>wpIn_exit (hQ (.exit id) F H I ρ a w aj ae),λ_ _ h=>by cases h⟩
 |ret=>exact⟨λ_ R cur aI k r Q hQ F H I ρ a w aj ae=>wpIn_ret (hQ .ret F H I ρ a w aj ae),λ_ _ h=>by cases h⟩
 |region id ap ah=>
  refine⟨?_,λ_ _ h=>by cases h⟩;intro az R cur aI k r Q hQ F H I ρ a w aj ae;have qJ:∀F H I ρ a w,Now E e N F H I ρ a w->k .normal F H=some r->Q .normal a w:=λF H I ρ a w h hk=>hQ .normal _ H I ρ a w h hk;unfold a2u at az;unfold a4a at ae;cases il:d6d ap.toList with
  |some x=>rw[il]at az;cases az
  |none=>
   rw[il]at az ae;cases ah with
   |true=>exact c3o (ap:=ap) ok af az qJ aj ae id
   |false=>refine wpIn_region ?_;have:=b1n (ro:=ro) ok af (ap:=ap) qJ ap.toList 0 [] F H I ρ a w rfl aj ae;rw[List.range_eq_range',<-f4p];exact this
 |seq x y ihx ihy=>
  refine⟨?_,λ_ _ h hd=>by cases h;exact ihy.1 hd⟩;intro az R cur aI k r Q hQ F H I ρ a w aj ae;simp only[a2u,f1d]at az;refine wpIn_seq (ihx.1 az.1 aI.seq1 ?_ aj ae);intro x F H I ρ a w hn hk;cases x with
  |normal=>exact ihy.1 az.2 aI.seq2 hQ hn hk
  |exit id=>exact hQ (.exit id) F H I ρ a w hn hk
  |ret=>exact hQ .ret F H I ρ a w hn hk
 |cond c x y ihx ihy=>
  refine⟨?_,λ_ _ h=>by cases h⟩;intro az R cur aI k r Q hQ F H I ρ a w aj ae;simp only[a2u,f1d]at az;unfold a4a at ae;split at ae
  case h_2=>cases ae
  rename_i t ht;have hc:=b4j aj.rel aj.frm c;rw[ht]at hc;simp only[VRel]at hc;cases t
  ·exact wpIn_cond_false hc (ihy.1 az.2 aI.cond2 hQ aj ae)
  ·exact wpIn_cond_true hc (ihx.1 az.1 aI.cond1 hQ aj ae)
 |block id b ih=>
  refine⟨?_,λ_ _ h=>by cases h⟩;intro az R cur aI k r Q hQ F H I ρ a w aj ae;refine wpIn_block (ih.1 az aI.block ?_ aj ae);intro x F H I ρ a w hn hk;cases x with
  |normal=>exact hQ .normal F H I ρ a w hn hk
  |exit id'=>
   simp only[AExit.conv,Exit.inBlock];dsimp only at hk;rw[cond_eq_ite]at hk;split at hk
   ·rename_i h;rw[f2w (by simpa using h)];exact hQ .normal F H I ρ a w hn hk
   ·rename_i h;rw[f2m (by simpa using h)];exact hQ (.exit id') F H I ρ a w hn hk
  |ret=>exact hQ .ret F H I ρ a w hn hk
 |loop b ih=>
  refine⟨?_,λ_ _ h=>by cases h⟩;intro az R cur aI k r Q hQ F H I ρ a w aj ae;unfold a2u at az;unfold a4a at ae;cases dH:a84 b with
  |some it=>
   rw[dH]at az ae;unfold a84 at dH;split at dH
   case h_2=>cases dH
   rename_i id ap al;obtain⟨⟨um,nx,n6⟩,h1,h2⟩:=a08 dH;simp only at h2;subst h2;have az:a2u true (.seq (.region id ap false) al)=true:=az;simp only[a2u,f1d]at az;exact d6l ok af (ih.2 _ _ rfl az.2) h1 aI.loop.seq2 hQ aj ae
  |none=>
  rw[dH]at az ae;refine c0m (n:=lf) (λn a w=>∃F H I ρ,Now E e N F H I ρ a w∧b32 e.m (keep cur) (λF H k=>a4a E e.m N keep call lf cur b F H k) n F H (λx F H=>bif d4w (keep cur)then k x (b9p (e.m+c9p (keep cur)) H F) (b0q (e.m+c9p (keep cur)) H)else k x F H)=some r) ?_ ?_ ⟨F,H,I,ρ,aj,ae⟩
  ·rintro n a w ⟨F,H,I,ρ,aj,ae⟩
   unfold b32 at ae;dsimp only at ae;rw[cond_eq_ite]at ae;split at ae
   case isFalse=>cases ae
   rename_i hc;simp only[f1d,f4l,f7k]at hc;obtain⟨ρ',dZ⟩:=(aj.keep (keep cur)).gc (a9l hc.1.1) hc.1.2;refine ih.1 az aI.loop ?_ dZ ae;intro x F H I ρ a w hn hk;have hz:∀x,(bif d4w (keep cur)then k x (b9p (e.m+c9p (keep cur)) H F) (b0q (e.m+c9p (keep cur)) H)else k x F H)=some r->Q x.conv a w:=by
    intro x hk;rw[cond_eq_ite]at hk;split at hk
    ·obtain⟨I',ρ',h'⟩:=hn.frz (c9p (keep cur));exact hQ x _ _ I' ρ' a w h' hk
    ·exact hQ x F H I ρ a w hn hk
   cases x with
   |normal=>exact⟨F,H,I,ρ,hn,hk⟩
   |exit id=>exact hz _ hk
   |ret=>exact hz _ hk
  ·rintro a w ⟨F,H,I,ρ,_,ae⟩
   simp[b32]at ae
 |scope b ih=>
  refine⟨?_,λ_ _ h=>by cases h⟩;intro az R cur aI k r Q hQ F H I ρ a w aj ae;refine b03 (ih.1 az aI.scope ?_ aj ae);intro x F H I ρ a w hn hk;cases x with
  |normal=>exact hQ .normal F H I ρ a w hn hk
  |exit id=>exact hQ (.exit id) F H I ρ a w hn hk
  |ret=>exact hQ .ret F H I ρ a w hn hk
 |rangeFunc f ps as b=>
  refine⟨λ_ R cur aI k r Q hQ F H I ρ a w aj ae=>?_,λ_ _ h=>by cases h⟩;cases ro with
  |none=>exact f0v ok af aI hQ aj ae
  |some l=>have:=aI.1 rfl;simp[b68]at this
 |goto l=>exact⟨λ_ R cur aI k r Q hQ F H I ρ a w aj ae=>by simp[a4a]at ae,λ_ _ h=>by cases h⟩
 |refuse s=>exact⟨λ_ R cur aI k r Q hQ F H I ρ a w aj ae=>by simp[a4a]at ae,λ_ _ h=>by cases h⟩
theorem b0k(ok:EnvOk E){call:FuncId->List AV->a03->Option (AV×a03)}(af:a45 E call){fid:Nat}{ro:Option Nat}{e:Entry}{N lf:Nat}{keep:Nat->List Nat}{R:Type}(c:Code)(hd:a8z c=true)
 {cur:Nat}(aI:RFOk E fid N keep ro cur c){k:AExit->Frm->a03->Option R}{r:R}{Q:Exit->Act->World->Prop}(hQ:∀x F H I ρ a w,Now E e N F H I ρ a w->k x F H=some r->Q x.conv a w)
 {F:Frm}{H:a03}{I:Nat->Prop}{ρ:PMap}{a:Act}{w:World}(aj:Now E e N F H I ρ a w)(ae:a4a E e.m N keep call lf cur c F H k=some r):c.wpIn (wf ro) 0 E.P Q a w:=
 (d7s ok af c).1 hd aI hQ aj ae
/-! ### a round -/
theorem c67{I:Nat->Prop}{w:World}{ρ:PMap}{N:Nat}:∀{ps:List Nat} {vs:List AV} {cs:List Value} {F:Frm} {t:Array Value},FRel I w ρ N F t->VRels I w ρ vs cs->vs.length=ps.length->(∀p∈ps,p<N)->
 FRel I w ρ N (c3k F ps vs) ((ps.zip cs).foldl (λt (p,c)=>t.setIfInBounds p c) t)
 | [],[],cs,F,t,hF,h,_,_=>by simp only[VRels]at h;subst h;simpa[c3k]using hF
 | [],_::_,_,_,_,_,_,h,_=>by simp at h
 |_::_,[],_,_,_,_,_,h,_=>by simp at h
 |p::ps,v::vs,cs,F,t,hF,h,hl,hp=>by simp only[VRels]at h;obtain⟨c,aO,rfl,h1,h2⟩:=h;simp only[c3k,List.zip_cons_cons,List.foldl_cons];have:=FRel.set (a:={ tmps:=t,defers:=[] }) (d:=some p) hF (λs hs=>by cases hs;exact hp p (by simp)) h1;exact c67 this h2 (by simpa using hl) (λq hq=>hp q (by simp[hq]))
def e82(E:Env):Prop:=∀y ri,E.G.rnd y=some ri->a8z ri.asg=true∧a8z ri.body=true∧b68 ri.asg=true∧b68 ri.body=true
theorem c3m(ok:EnvOk E)(rq:e82 E){call:FuncId->List AV->a03->Option (AV×a03)}(af:a45 E call)(lf:Nat):a9a E yId (a9e E call lf):=by
 intro args H v H' ae I K ρ w an rel hn ha;rw[e3n];unfold a9e at ae;split at ae
 case h_2=>cases ae
 rename_i b vs;split at ae
 case h_2=>cases ae
 rename_i y F hb;split at ae
 case h_2=>cases ae
 rename_i ri mi;rw[cond_eq_ite]at ae;split at ae
 case isFalse=>cases ae
 rename_i hc;simp only[f1d,g0j,f4l,f4o]at hc;obtain⟨ak,jp⟩:=hc;simp only[VRels]at ha;obtain⟨c0,qQ,rfl,h0,dV⟩:=ha;simp only[VRel]at h0;obtain⟨m,hm,rfl⟩:=h0;obtain⟨m',bl,dY,gx,vJ,r,g0,g1,g2,g3,g4,g5,g6,g7⟩:=rel.live b _ hb;obtain rfl:m=m':=z9o (hm.symm.trans bl);rw[mi]at g0;cases g0;obtain⟨d1,d2,d3,d4⟩:=rq y ri mi;have cj:qQ.toArray.size=r.params.size:=by have:=VRels.length dV;rw[<-f4p (xs:=r.params),g3];simp;omega
 refine⟨m.blk,qQ,r.fn,_,r.assign,r.body,rfl,run_yield g1 cj,roundIn_of_wpIn (F:=Fence.wide) trivial ?_⟩;rw[g4]
 let e:Entry:=⟨I,K,ρ,H.length,w⟩
 have su:b<H.length:=b9i hb;have rU:FRel I w ρ ri.N (c3k F ri.ps vs) ((r.params.zip qQ.toArray).foldl (λtmps (t,a)=>tmps.setIfInBounds t a) r.tmps):=by
  have h1:FRel I w ρ ri.N F r.tmps:=⟨g2,λs=>by have:=g6 s;rwa [b3y]at this⟩
  have:=c67 (ps:=ri.ps) h1 dV ak jp;rw[<-g3]at this⊢;rw[<-Array.foldl_toList,Array.toList_zip];exact this
 have aj:Now E e ri.N (c3k F ri.ps vs) H I ρ { tmps:=(r.params.zip qQ.toArray).foldl (λtmps (t,a)=>tmps.setIfInBounds t a) r.tmps,defers:=[] } w:=⟨λ_ h=>h,λ_ _=>rfl,Ext.refl _ _ _,rel,hn,rU,f2q _,Marks.nil⟩
 have rf:∀c,b68 c=true->RFOk E ri.fid ri.N (E.keep ri.fid) (some m.blk) 0 c:=λc h=>⟨λ_=>h,λx hx=>by rw[a6t c 0 h]at hx;cases hx⟩
 refine b0k (e:=e) (ro:=some m.blk) ok af ri.asg d1 (rf _ d3) ?_ aj ae;intro x F1 H1 I1 ρ1 a1 w1 cC hk
 -- the record,wherever the run has come to
 have l4:∀{F1 H1 I1 ρ1 a1 w1 y1 F0 st},Now E e ri.N F1 H1 I1 ρ1 a1 w1->a02 H1 b=some (.yloop y1 F0 st)->ρ1 b=some m∧∃r1:Loop,w1.heap[m.blk]?=some (.loop r1)∧(st = .ready->r1.state = .ready):=by
  intro F1 H1 I1 ρ1 a1 w1 y1 F0 st cC cO;have db:ρ1 b=some m:=by rw[cC.map b su];exact hm
  obtain⟨m1,q1,_,_,_,r1,_,q2,_,_,_,_,_,q3⟩:=cC.rel.live b _ cO;obtain rfl:m=m1:=z9o (db.symm.trans q1);exact⟨db,r1,q2,λe=>by subst e;exact q3.1⟩
 cases x with
 |exit id=>cases hk
 |ret=>cases hk
 |normal=>
  dsimp only at hk;split at hk
  case h_2=>cases hk
  rename_i vG mT;obtain⟨y1,F0,cO,rfl⟩:=c0l mT;obtain⟨db,r1,dM,iC⟩:=l4 cC cO;have jv:=cC.yput (new:=.busy) (r':={ r1 with state:=.busy }) cO db dM ⟨rfl,rfl,rfl,rfl⟩ rfl;refine⟨_,run_beginRound dM (iC rfl),?_⟩;rw[g5];refine b0k (e:=e) (ro:=some m.blk) ok af ri.body d2 (rf _ d4) ?_ jv hk;intro x F3 H3 I3 ρ3 a3 w3 oq hk;have fin:∀(new:YSt) (bb:Bool) (jump:Option Code),jump.isNone=bb->(e00 H3 b .busy new).map (.bool bb,·)=some (v,H')->(match new with
   |.ready=>jump=none
   |.busy=>False
   |.done j=>jump=some (c5j j))->
   ∃v1 w4,(Instr.endRound m.blk jump).run E.P w3 = .ok v1 w4∧∃c I' ρ',Ending.returned v1 = .returned c∧Ret E I K ρ H.length w I' ρ' H' w4∧VRel I' w4 ρ' v c:=by
   intro new bb jump hj hk aX;obtain⟨H4,mT,he⟩:=a08 hk;cases he;obtain⟨y3,F4,qG,rfl⟩:=c0l mT;obtain⟨kU,r3,od,_⟩:=l4 oq qG;have mn:=oq.yput (new:=new) (r':={ r3 with state:=if jump.isNone then .ready else .done,pending:=jump }) qG kU od ⟨rfl,rfl,rfl,rfl⟩ (by
    cases new with
    |ready=>dsimp only at aX⊢;subst aX;exact⟨rfl,rfl⟩
    |busy=>exact aX.elim
    |done j=>dsimp only at aX⊢;subst aX;exact⟨rfl,rfl⟩)
   exact⟨_,_,run_endRound jump od,_,I3,ρ3,rfl,⟨mn.imm,mn.map,mn.ext,mn.rel,mn.nrel,mn.low⟩,by simp only[VRel];rw[hj]⟩
  cases x with
  |normal=>exact fin .ready true none rfl hk rfl
  |ret=>exact fin (.done none) false (some .ret) rfl hk rfl
  |exit id=>exact fin (.done (some id)) false (some (.exit id)) rfl hk rfl
end
end Go.Ax
/- AxFun: functions. -/
namespace Go.Ax
section
variable {E:Env}{I K:Nat->Prop}{ρ:PMap}{h:FHeap}{w:World}
theorem d4h(ok:EnvOk E)(r:HRel E.G I K ρ h w){t:TypeId}{p v:AV}{c:Value}(hl:a6q E h t p=some v)(hp:VRel I w ρ p c) :
 ∃a d,c = .pointer (some a)∧(loadVar t a).run E.P w = .ok d w∧VRel I w ρ v d:=by
 cases p with
 |ptr b i o=>
  simp only[a6q]at hl;cases hb:h b with
  |none=>simp[hb]at hl
  |some ob=>
   cases ob with
   |row k aa=>
    simp only[hb]at hl;cases hr:aa[i]? with
    |none=>simp[hr]at hl
    |some rw'=>
     simp only[hr]at hl;obtain⟨m,hm,_,_,ho⟩:=r.live b _ hb;obtain⟨hk,hk0,_,aA⟩:=ho;obtain⟨ak,bO⟩:=VRows.get i aA hr;simp only[VRel]at hp;obtain⟨m',bl,rfl⟩:=hp;obtain rfl:m=m':=z9o (hm.symm.trans bl);by_cases cj:o<=rw'.length
     ·have kE:VAt I w ρ ((rw'.drop o).take (E.sz t)) m.blk (m.off+i*m.k+o):=by
       rw[hk];exact VAt.take _ (VAt.drop o cj bO)
      obtain⟨c,hc,hv⟩:=a7n ok hl kE;exact⟨_,c,rfl,hc,hv⟩
     ·have:rw'.drop o=[]:=f9a (by omega);rw[this]at hl;unfold a2r at hl;simp only[f6x,f1h]at hl;rw[cond_eq_ite]at hl;split at hl
      ·rename_i h0;cases hd:E.und t with
       |none=>simp[hd]at hl
       |some d=>
        simp only[hd]at hl;have h0:E.sz t=0:=(show 0=E.sz t by simpa using h0).symm;cases eo:a2m d with
        |true=>simp[eo]at hl;subst hl;refine⟨_,.agg #[],rfl,?_,by simp only[VRel];exact⟨#[],rfl,by simp[VRels]⟩⟩;simp[loadVar,b42 ok w hd,eo,a3a ok w hd,h0,loadCells,loadCellsFrom]
        |false=>simp[eo]at hl
      ·cases hl
   |map ks vs bs cl=>simp[hb]at hl
   |siter s pos=>simp[hb]at hl
   |uset ks=>simp[hb]at hl
   |miter ks dC dK=>simp[hb]at hl
   |yloop y Fy st=>simp[hb]at hl
 |iptr cs=>simp only[a6q]at hl;simp only[VRel]at hp;obtain⟨b,off,rfl,hI,bO⟩:=hp;obtain⟨c,hc,hv⟩:=a7n ok hl (VAt.take _ bO);exact⟨_,c,rfl,hc,VRel.noRef_any hv⟩
 |_=>simp[a6q]at hl
def e8k(tmps:Array Value):ResultVar->Sem Value:=fun
 |.tmp t=>pure (tmps.getD t undef)
 |.cell a t=>do loadVar t (<-asAddr (tmps.getD a undef))
theorem b0n(ok:EnvOk E){H:a03}{F:Frm}{tmps:Array Value}(r:HRel E.G I K ρ (a02 H) w)(hF:∀s,VRel I w ρ (a35 F s) (tmps.getD s undef)) :
 ∀(rs:List ResultVar) {vs:List AV},a1c E F H rs=some vs->∃cs:List Value,(rs.mapM (e8k tmps)).run E.P w = .ok cs w∧VRels I w ρ vs cs
 | [],vs,ha=>by simp only[a1c,Option.some.injEq]at ha;subst ha;exact⟨[],by simp,by simp[VRels]⟩
 |.tmp t::rs,vs,ha=>by
  unfold a1c at ha;split at ha
  case h_2=>cases ha
  rename_i eX h1;cases ha;obtain⟨cs,h2,h3⟩:=b0n ok r hF rs h1;refine⟨tmps.getD t undef::cs,?_,by simp only[VRels];exact⟨_,_,rfl,hF t,h3⟩⟩;simp only[List.mapM_cons,e8k,Sem.run_bind,Sem.run_pure,Result.andThen_ok,h2]
 |.cell a t::rs,vs,ha=>by
  unfold a1c at ha;split at ha
  case h_2=>cases ha
  rename_i v eX h0 h1;cases ha;obtain⟨cs,h2,h3⟩:=b0n ok r hF rs h1;obtain⟨ad,d,h4,h5,h6⟩:=d4h ok r h0 (hF a);refine⟨d::cs,?_,by simp only[VRels];exact⟨_,_,rfl,h6,h3⟩⟩;simp only[List.mapM_cons,e8k,h4,asAddr,Sem.run_bind,Sem.run_pure,Result.andThen_ok,h2,h5]
theorem c7p(ok:EnvOk E){fn:Func}{H:a03}{F:Frm}{tmps:Array Value}(r:HRel E.G I K ρ (a02 H) w)(hF:∀s,VRel I w ρ (a35 F s) (tmps.getD s undef)){vs:List AV}(ha:a1c E F H fn.results.toList=some vs) :
 ∃c,(results fn tmps).run E.P w = .ok c w∧VRel I w ρ (a6l vs) c:=by
 obtain⟨cs,h1,h2⟩:=b0n ok r hF _ ha;have ae:(results fn tmps).run E.P w = .ok (if h:cs.toArray.size=1 then cs.toArray[0]else .tuple cs.toArray) w:=by have:results fn tmps=(do let vs<-fn.results.mapM (e8k tmps);pure (if h:vs.size=1 then vs[0]else .tuple vs)):=rfl;rw[this,Array.mapM_eq_mapM_toList];simp only[bind_map_left,Sem.run_bind,h1,Result.andThen_ok,Sem.run_pure]
 refine⟨_,ae,?_⟩
 match vs,cs,h2 with
 | [],cs,h2=>simp only[VRels]at h2;subst h2;simp only[a6l,VRel];exact⟨#[],by simp,by simp[VRels]⟩
 | [v],cs,h2=>simp only[VRels]at h2;obtain⟨c,aO,rfl,h3,rfl⟩:=h2;simpa[a6l]using h3
 |v::v'::vs,cs,h2=>have fM:=h2;simp only[VRels]at h2;obtain⟨c,_,rfl,_,c',aO,rfl,_,_⟩:=h2;simp only[a6l,VRel];exact⟨_,by simp,fM⟩
theorem b7t:∀(args:List AV) (i s:Nat),a35 (a3t i args) s=if i<=s then(args[s-i]?).getD .junk else .junk
 | [],i,s=>by simp[a3t,a35]
 |v::vs,i,s=>by
  simp only[a3t,a35,d4v,b7t vs (i+1) s];by_cases h:i=s
  ·subst h;simp
  ·rw[f6o.2 h];by_cases h1:i<s
   ·simp only[f4i];rw[f2w (by omega),f2w (by omega),show s-i=(s-(i+1))+1 by omega,f4r]
   ·simp only[f4i];rw[f2m (by omega),f2m (by omega)]
theorem d3i{args:List AV}{an:List Value}{n:Nat}(hn:args.length<=n)(h:VRels I w ρ args an):FRel I w ρ n (a3t 0 args) (an.toArray++Array.replicate (n-an.toArray.size) undef):=by
 have ak:=VRels.length h;refine⟨by simp;omega,λs=>?_⟩;rw[b7t];simp only[f2i,f7i,Nat.sub_zero];cases hs:args[s]? with
 |none=>simp[VRel]
 |some v=>have cY:=(f1i.1 hs).1;obtain⟨c,hc,hv⟩:=VRels.get s h hs;simp only[f4v,f4u];rw[Array.getElem?_append_left (by simp;omega)];simp only[f7f,hc,f4v];exact hv
theorem d9i{m:Nat}{v v':AV}{c:Value}{H:a03}(dS:a36 m true (a3k (a02 H) m 12) v=some v')(hm:m<=H.length)(r:HRel E.G I K ρ (a02 H) w)(hn:NRel ρ H.length)(hv:VRel I w ρ v c) :
 ∃I' ρ',(∀c,I c->I' c)∧(∀b,b<m->ρ' b=ρ b)∧HRel E.G I' K ρ' (a02 ((H.take m).map (Option.map (a0g (a1p m))))) w∧NRel ρ' ((H.take m).map (Option.map (a0g (a1p m)))).length∧m<=((H.take m).map (Option.map (a0g (a1p m)))).length∧VRel I' w ρ' v' c:=by
 have ak:((H.take m).map (Option.map (a0g (a1p m)))).length=m:=by simp;omega
 obtain⟨h1,h2⟩:=b10 (h':=a02 ((H.take m).map (Option.map (a0g (a1p m))))) r dS hv (by
  intro b o' hb;simp only[a02,f1l,f8v]at hb;split at hb
  case isFalse=>simp at hb
  rename_i ai;cases hx:H[b]? with
  |none=>rw[hx]at hb;simp at hb
  |some ob=>rw[hx]at hb;simp only[f2k,f8r]at hb;obtain⟨o,rfl,rfl⟩:=a08 hb;exact⟨o,ai,by simp[a02,hx],rfl⟩)
 refine⟨_,_,λ_ h=>.inl h,λb hb=>by simp[PMap.below,hb],h1,?_,by rw[ak];exact f2q _,h2⟩;intro b hb;rw[ak]at hb;simp only[PMap.below];rw[f2m (by omega)]
theorem e1m{m:Nat}{v v':AV}{c:Value}{H H':a03}(hf:e1n m v H=some (v',H'))(hm:m<=H.length)(r:HRel E.G I K ρ (a02 H) w)(hn:NRel ρ H.length)(hv:VRel I w ρ v c) :
 ∃I' ρ',(∀c,I c->I' c)∧(∀b,b<m->ρ' b=ρ b)∧HRel E.G I' K ρ' (a02 H') w∧NRel ρ' H'.length∧m<=H'.length∧VRel I' w ρ' v' c:=by
 unfold e1n at hf;split at hf
 case h_2=>cases hf;exact⟨I,ρ,λ_ h=>h,λ_ _=>rfl,r,hn,hm,hv⟩
 case h_3=>cases hf;exact⟨I,ρ,λ_ h=>h,λ_ _=>rfl,r,hn,hm,hv⟩
 case h_4=>cases hf;exact⟨I,ρ,λ_ h=>h,λ_ _=>rfl,r,hn,hm,hv⟩
 case h_5=>cases hf;exact⟨I,ρ,λ_ h=>h,λ_ _=>rfl,r,hn,hm,hv⟩
 case h_6=>cases hf;exact⟨I,ρ,λ_ h=>h,λ_ _=>rfl,r,hn,hm,hv⟩
 case h_7=>cases hf;obtain⟨I',ρ',f⟩:=d9i (v:=.nilslice) (v':=.nilslice) rfl hm r hn hv;exact⟨I',ρ',f⟩
 case h_8=>cases hf
 rename_i b i o;rw[cond_eq_ite]at hf;split at hf
 case isFalse=>cases hf
 rename_i ni;rw[f7k]at ni;split at hf
 case h_2=>cases hf
 rename_i k aa hb;split at hf
 case h_2=>cases hf
 rename_i bm dS;cases hf;simp only[VRel]at hv;obtain⟨p,hp,rfl⟩:=hv;obtain⟨p',ik,dY,gx,hk,hk0,⟨cI,e,mL,nK,nJ⟩,aA⟩:=r.live b _ hb;obtain rfl:p=p':=z9o (hp.symm.trans ik);have ii:∀x,a4f (a02 H) b x=if x=b then none else a02 H x:=by
  intro x;unfold a4f;by_cases h:x=b
  ·subst h;rw[f2w rfl,show Nat.beq x x=true from Nat.beq_refl x];rfl
  ·rw[f2m h,show Nat.beq x b=false from by
    cases hq:Nat.beq x b with
    |false=>rfl
    |true=>exact absurd (f7o hq) h]
   rfl
 have r0:HRel E.G I K ρ (a4f (a02 H) b) w:=r.fewer (λx ob hx=>by
  rw[ii]at hx;split at hx
  ·cases hx
  ·exact hx)
 have ak:((H.take m).map (Option.map (a0g (a1p m)))).length=m:=by simp;omega
 have dz:∀x o',a02 ((H.take m).map (Option.map (a0g (a1p m)))) x=some o'->∃o,x<m∧a4f (a02 H) b x=some o∧o'=a0g (a1p m) o:=by
  intro x o' hx;simp only[a02,f1l,f8v]at hx;split at hx
  case isFalse=>simp at hx
  rename_i ai;cases hxx:H[x]? with
  |none=>rw[hxx]at hx;simp at hx
  |some ob=>rw[hxx]at hx;simp only[f2k,f8r]at hx;obtain⟨o,rfl,rfl⟩:=a08 hx;exact⟨o,ai,by rw[ii,f2m (by omega)];simp[a02,hxx],rfl⟩
 have h1:=(b10 (h':=a02 ((H.take m).map (Option.map (a0g (a1p m))))) r0 (v:=.junk) (v':=.junk) (c:=.nilFunc) (n:=12) (m:=m) rfl (by simp[VRel]) dz).1;have rE:¬a41 I ρ (a4f (a02 H) b) m p.blk:=by
  rintro(hc|⟨b',o',q,a6,eR,hq,he⟩)
  ·exact dY hc
  ·rw[ii]at eR;split at eR
   ·cases eR
   ·rename_i aw;exact aw (r.inj b' b q p (by simp[eR]) (by simp[hb]) hq hp he)
 have hI:∀c,I c->a41 I ρ (a4f (a02 H) b) m c:=λc hc=>.inl hc;have iH:=c49 hI (a67 r0 12) aa dS aA
 let ρ':PMap:=λx=>if x=m then some p else ρ.below m true x
 have hρ:∀x q,ρ.below m true x=some q->ρ' x=some q:=by
  intro x q hx;have ai:x<m:=by
   simp only[PMap.below]at hx;split at hx
   ·rename_i h;exact h.2
   ·cases hx
  show(if x=m then some p else ρ.below m true x)=some q;rw[f2m (by omega)];exact hx
 have ub:∀x,a02 ((H.take m).map (Option.map (a0g (a1p m)))++[some (.row k bm)]) x=if x=m then some (.row k bm)else a02 ((H.take m).map (Option.map (a0g (a1p m)))) x:=by
  intro x;unfold a02;by_cases hx:x<m
  ·rw[f2l (by rw[ak];exact hx),f2m (by omega)]
  ·rw[f2r (by rw[ak];omega),ak];by_cases ep:x=m
   ·subst ep;rw[f2w rfl,Nat.sub_self];rfl
   ·rw[f2m ep];have e1:([some (AObj.row k bm)]:a03)[x-m]?=none:=f2s (by simp;omega);have e2:((H.take m).map (Option.map (a0g (a1p m))))[x]?=none:=f2s (by rw[ak];omega);rw[e1,e2]
 refine⟨a41 I ρ (a4f (a02 H) b) m,ρ',hI,?_,?_,?_,?_,?_⟩
 ·intro x hx;show(if x=m then some p else ρ.below m true x)=ρ x;rw[f2m (by omega)];simp[PMap.below,hx]
 ·refine⟨?_,?_,?_,h1.imm,h1.kept,h1.apart,?_⟩
  ·intro x ob hx;rw[ub]at hx;split at hx
   ·rename_i ep;cases hx;refine⟨p,by show(if x=m then some p else _)=some p;rw[f2w ep],rE,gx,hk,hk0,⟨cI,e,mL,nK,by rw[b0g dS];exact nJ⟩,?_⟩;exact VRows.mono (λ_ h=>h) (λ_ _=>rfl) bm hρ rfl iH
   ·obtain⟨q,hq,h3,h4,h5⟩:=h1.live x ob hx;exact⟨q,hρ x q hq,h3,h4,ORel.mono ob (λ_ h=>h) (λ_ _=>rfl) hρ rfl h5⟩
  ·intro x y q q' hx hy tm rt he;rw[ub]at hx hy;have low:∀z q,z≠m->(a02 ((H.take m).map (Option.map (a0g (a1p m)))) z).isSome->ρ' z=some q->ρ.below m true z=some q∧z<m∧ρ z=some q∧(a02 H z).isSome:=by
    intro z q hz hs hq;have jo:ρ.below m true z=some q:=by have:(if z=m then some p else ρ.below m true z)=some q:=hq;rw[f2m hz]at this;exact this
    obtain⟨ob,ho⟩:=f1j.1 hs;obtain⟨o1,ai,eE,_⟩:=dz z ob ho;rw[ii,f2m (by omega)]at eE;refine⟨jo,ai,?_,by rw[eE];rfl⟩;simp only[PMap.below]at jo;rw[f2w ⟨trivial,ai⟩]at jo;exact jo
   by_cases ep:x=m
   ·by_cases kP:y=m
    ·rw[ep,kP]
    ·exfalso;rw[f2m kP]at hy;obtain⟨_,h4,h5,h6⟩:=low y q' kP hy rt;have ru:q=p:=by
      have:(if x=m then some p else ρ.below m true x)=some q:=tm;rw[f2w ep]at this;exact(z9o this).symm
     subst ru;have:=r.inj b y q q' (by simp[hb]) h6 hp h5 he;omega
   ·rw[f2m ep]at hx;obtain⟨h3,h4,h5,h6⟩:=low x q ep hx tm;by_cases kP:y=m
    ·exfalso;have ru:q'=p:=by
      have:(if y=m then some p else ρ.below m true y)=some q':=rt;rw[f2w kP]at this;exact(z9o this).symm
     subst ru;have:=r.inj x b q q' h6 (by simp[hb]) h5 hp he;omega
    ·rw[f2m kP]at hy;obtain⟨g3,_⟩:=low y q' kP hy rt;exact h1.inj x y q q' hx hy h3 g3 he
  ·intro x q hx;have:(if x=m then some p else ρ.below m true x)=some q:=hx;split at this
   ·cases this;exact r.dom b p hp
   ·exact h1.dom x q this
  ·intro g cs hg;exact h1.glob g cs hg
 ·intro x hx;rw[f2n,ak]at hx;simp only[f1c,f1h]at hx;show(if x=m then some p else ρ.below m true x)=none;rw[f2m (by omega)];simp only[PMap.below];rw[f2m (by omega)]
 ·rw[f2n,ak];omega
 ·simp only[VRel];exact⟨p,by show(if m=m then some p else _)=some p;rw[f2w rfl],rfl⟩
theorem d39{thaw:Bool}{m:Nat}{v v':AV}{c:Value}{H H':a03}(hf:a22 thaw m v H=some (v',H'))(hm:m<=H.length)(r:HRel E.G I K ρ (a02 H) w)(hn:NRel ρ H.length)(hv:VRel I w ρ v c) :
 ∃I' ρ',(∀c,I c->I' c)∧(∀b,b<m->ρ' b=ρ b)∧HRel E.G I' K ρ' (a02 H') w∧NRel ρ' H'.length∧m<=H'.length∧VRel I' w ρ' v' c:=by
 unfold a22 at hf;rw[cond_eq_ite]at hf;split at hf
 ·rw[cond_eq_ite]at hf;split at hf
  ·exact e1m hf hm r hn hv
  ·cases hf;exact⟨I,ρ,λ_ h=>h,λ_ _=>rfl,r,hn,hm,hv⟩
 ·split at hf
  case h_2=>cases hf;exact⟨I,ρ,λ_ h=>h,λ_ _=>rfl,r,hn,hm,hv⟩
  rename_i v1 dS;cases hf;exact d9i dS hm r hn hv
theorem e2i{g:FuncId}{m:Nat}{v v':AV}{c:Value}{H H':a03}(hf:c9q E g m v H=some (v',H'))(hm:m<=H.length)(r:HRel E.G I K ρ (a02 H) w)(hn:NRel ρ H.length)(hv:VRel I w ρ v c) :
 ∃I' ρ',(∀c,I c->I' c)∧(∀b,b<m->ρ' b=ρ b)∧HRel E.G I' K ρ' (a02 H') w∧NRel ρ' H'.length∧m<=H'.length∧VRel I' w ρ' v' c:=by
 unfold c9q at hf;rw[cond_eq_ite]at hf;split at hf
 ·cases hf;exact⟨I,ρ,λ_ h=>h,λ_ _=>rfl,r,hn,hm,hv⟩
 ·exact d39 hf hm r hn hv
end
structure DrOk(E:Env):Prop where
 draws:∀f i,E.fn f=some i->a8z i.code=true
 rf:∀f i,E.fn f=some i->∀x∈rfs i.ntmps f 0 i.code,∃y,yOf (E.keep f x.1)=some y∧E.G.rnd y=some x.2
 rnd:e82 E
 prim:∀f args v H1,E.prim f args=some (v,H1)->a9a E f λa H=>match a,H with
  |a,[]=>E.prim f a
  |_,_=>none
theorem DrOk.code{E:Env}(h:DrOk E){f:FuncId}{i:FInfo}(hi:E.fn f=some i):RFOk E f i.ntmps (E.keep f) none 0 i.code:=⟨λh=>by simp at h,h.rf f i hi⟩
def f3k(E:Env)(g:FuncId)(m:Nat)(rs:List ResultVar):AExit->Frm->a03->Option (AV×a03)
 |.exit _,_,_=>none
 |_,F,H=>match a1c E F H rs with
  |some vs=>c9q E g m (a6l vs) H
  |none=>none
theorem e6z{E:Env}(ok:EnvOk E){g:FuncId}{i:FInfo}(hi:E.fn g=some i){args:List AV}{H H':a03}{v:AV}(bf:Nat.ble args.length i.ntmps=true)
 {k:AExit->Frm->a03->Option (AV×a03)}(pG:∀x F1 H1 r,k x F1 H1=some r->f3k E g H.length i.results x F1 H1=some r)
 (pS:∀{e:Entry} {Q:Exit->Act->World->Prop},e.m=H.length->(∀x F1 H1 I ρ a w,Now E e i.ntmps F1 H1 I ρ a w->k x F1 H1=some (v,H')->Q x.conv a w)->
  ∀{I:Nat->Prop} {ρ:PMap} {a:Act} {w:World},Now E e i.ntmps (a3t 0 args) H I ρ a w->i.code.wpIn (wf none) 0 E.P Q a w)
 {I K:Nat->Prop}{ρ:PMap}{w:World}{an:List Value}(rel:HRel E.G I K ρ (a02 H) w)(hn:NRel ρ H.length)(ha:VRels I w ρ args an) :
 XOf E g an w λen w'=>∃c I' ρ',en = .returned c∧Ret E I K ρ H.length w I' ρ' H' w'∧VRel I' w' ρ' v c:=by
 obtain⟨fn,h1,h2,h3,h4,_⟩:=ok.fn g i hi;rw[b2y (c8p ok hi)];refine callsIn_wide.1 (callsIn_of_wp_marks (F:=Fence.wide) (n:=0) h1 h2 trivial ?_);rw[h3]
 let e:Entry:=⟨I,K,ρ,H.length,w⟩
 have aj:Now E e i.ntmps (a3t 0 args) H I ρ { tmps:=an.toArray++Array.replicate (i.ntmps-an.toArray.size) undef,defers:=[] } w:=⟨λ_ h=>h,λ_ _=>rfl,Ext.refl _ _ _,rel,hn,d3i (by simpa[f7k]using bf) ha,f2q _,Marks.nil⟩
 refine pS (e:=e) rfl ?_ aj;intro x F1 H1 I1 ρ1 a w1 cC hk;have hk:=pG _ _ _ _ hk;have fin:(match a1c E F1 H1 i.results with
  |some vs=>c9q E g H.length (a6l vs) H1
  |none=>none)=some (v,H')->LeavesInM Fence.wide 0 E.P fn a.tmps (λen w'=>∃c I' ρ',en = .returned c∧Ret E I K ρ H.length w I' ρ' H' w'∧VRel I' w' ρ' v c) a.defers .returning w1:=by
  intro hk;split at hk
  case h_2=>cases hk
  rename_i vs dV;rw[<-h4]at dV;obtain⟨rs,q1,q2,q3⟩:=cC.marks;rw[q1];refine b2n rs w1 q2 (λr hr=>(q3 r hr).2.2) ?_;obtain⟨s1,s2,s3,s4,s5⟩:=b2h rs w1;have oL:HRel E.G I1 K ρ1 (a02 H1) (a38 rs w1):=HRel.shut cC.rel (S:=(·∈rs)) (λc hc=>⟨(q3 c hc).1,_,(q3 c hc).2.2⟩) s1 s5;have hD:∀c,SameD w1 (a38 rs w1) c:=by
   intro c;by_cases hc:c∈rs
   ·exact .inr ⟨_,(q3 c hc).2.2⟩
   ·exact .inl (s5 c hc)
  have sR:∀s,VRel I1 (a38 rs w1) ρ1 (a35 F1 s) (a.tmps.getD s undef):=λs=>VRel.monoD (λc _=>hD c) _ (cC.frm.2 s);have sS:Ext I K w (a38 rs w1):=by refine⟨by rw[s3];exact cC.ext.os,by rw[s2];exact cC.ext.tape,by rw[s4];exact cC.ext.output,by rw[s1];exact cC.ext.size,λc hc=>?_⟩;have ai:c<w.heap.size:=hc.elim (rel.imm c) (rel.kept c);rw[s5 c (λhm=>by have h:w.heap.size<=c:=(q3 c hm).2.1;omega)];exact cC.ext.keep c hc
  obtain⟨c,hr,hv⟩:=c7p ok oL sR dV;obtain⟨I2,ρ2,f1,f2,f3,f4,f5,f6⟩:=e2i hk cC.low oL cC.nrel hv;exact⟨c,hr,c,I2,ρ2,rfl,⟨λc hc=>f1 c (cC.imm c hc),λb hb=>by rw[f2 b hb];exact cC.map b hb,sS,f3,f4,f5⟩,f6⟩
 cases x with
 |normal=>exact fin hk
 |exit id=>cases hk
 |ret=>exact fin hk
end Go.Ax
/- AxLive: which slots are read from a loop's head on. Definitions only: nothing rests on them. -/
namespace Go.Ax
def e5l:List (Nat×List Nat)->Nat->List Nat
 | [],_=>[]
 |(i,l)::r,j=>bif Nat.beq i j then l else e5l r j
end Go.Ax
/- AxInst: the tables of the evaluator, read off a program. -/
namespace Go.Ax
/-! ### tables that are searched -/
inductive Tab(α:Type) where
 |nil
 |node (l:Tab α)(k:Nat)(v:α)(r:Tab α)
def Tab.get{α:Type}:Tab α->Nat->Option α
 |.nil,_=>none
 |.node l k v r,i=>bif Nat.blt i k then l.get i else bif Nat.beq i k then some v else r.get i
def Tab.all{α:Type}(p:Nat->α->Bool):Tab α->Bool
 |.nil=>true
 |.node l k v r=>p k v&&l.all p&&r.all p
theorem Tab.all_get{α:Type}{p:Nat->α->Bool}:∀{t:Tab α} {i:Nat} {x:α},t.all p=true->t.get i=some x->p i x=true
 |.nil,i,x,_,h=>by simp[Tab.get]at h
 |.node l k v r,i,x,ha,h=>by
  simp only[Tab.all,f1d]at ha;simp only[Tab.get,cond_eq_ite]at h;split at h
  ·exact Tab.all_get ha.1.2 h
  ·split at h
   ·rename_i hk;have:i=k:=by simpa using hk
    cases h;subst this;exact ha.1.1
   ·exact Tab.all_get ha.2 h
def Tab.toList{α:Type}:Tab α->List α
 |.nil=>[]
 |.node l _ v r=>l.toList++v::r.toList
def Tab.from{α:Type}:Nat->Tab α->Option Nat
 |lo,.nil=>some lo
 |lo,.node l k _ r=>match l.from lo with
  |some n=>bif Nat.beq n k then r.from (k+1)else none
  |none=>none
theorem Tab.from_len{α:Type}:∀{t:Tab α} {lo n:Nat},t.from lo=some n->n=lo+t.toList.length
 |.nil,lo,n,h=>by simp only[Tab.from,Option.some.injEq]at h;simp[Tab.toList,h]
 |.node l k v r,lo,n,h=>by
  unfold Tab.from at h;split at h
  case h_2=>cases h
  rename_i m hm;rw[cond_eq_ite]at h;split at h
  case isFalse=>cases h
  rename_i hk;have hk:m=k:=by simpa using hk
  have h1:=Tab.from_len hm;have h2:=Tab.from_len h;simp[Tab.toList];omega
theorem Tab.get_from{α:Type}:∀{t:Tab α} {lo n i:Nat} {x:α},t.from lo=some n->t.get i=some x->lo<=i∧t.toList[i-lo]?=some x
 |.nil,lo,n,i,x,_,h=>by simp[Tab.get]at h
 |.node l k v r,lo,n,i,x,hf,h=>by
  unfold Tab.from at hf;split at hf
  case h_2=>cases hf
  rename_i m hm;rw[cond_eq_ite]at hf;split at hf
  case isFalse=>cases hf
  rename_i hk;have hk:m=k:=by simpa using hk
  subst hk;have hl:=Tab.from_len hm;simp only[Tab.get,cond_eq_ite]at h;split at h
  ·rename_i ai;obtain⟨h1,h2⟩:=Tab.get_from hm h;have ai:i<m:=by simpa[f4o]using ai
   refine⟨h1,?_⟩;simp only[Tab.toList];rw[f2l (by omega)];exact h2
  ·split at h
   ·rename_i hk;have:i=m:=by simpa using hk
    cases h;subst this;refine⟨by omega,?_⟩;simp only[Tab.toList];rw[f2r (by omega),show i-lo-l.toList.length=0 by omega];rfl
   ·obtain⟨h1,h2⟩:=Tab.get_from hf h;refine⟨by omega,?_⟩;simp only[Tab.toList];rw[f2r (by omega),show i-lo-l.toList.length=(i-(m+1))+1 by omega,f4r];exact h2
/-! ### the tables of a program -/
def d8q(T:Tab TypeInfo)(t:TypeId):Option TypeDesc:=
 match T.get t with
 |some i=>match i.desc with
  |.named _ u=>match T.get u with
   |some j=>some j.desc
   |none=>none
  |d=>some d
 |none=>none
def d9z(T:Tab TypeInfo)(t:TypeId):Option (List AV):=
 match T.get t with
 |some i=>match i.zero with
  |some z=>bif (d8q T t).isSome&&Nat.beq z.cells.toList.length i.size then some (z.cells.toList.map a47)else none
  |none=>none
 |none=>none
def e79(P:Program)(T:Tab TypeInfo)(t:TypeId):Bool:=
 !(P.eqGuardType P.depth t) && !(P.stoodInHeld t)&&(match T.get t with|some i=>i.comparable|none=>false) &&
  (match d8q T t with|some (.struct fs)=>fs.toList.all (λf=>!(f.name == "_"))|_=>true)
def d93(T:Tab TypeInfo)(t:Nat)(i:TypeInfo):Bool:=
 match d8q T t,i.zero with
 |some d,some (.agg _)=>a2m d
 |some d,some _=>!(a2m d)
 |_,_=>true
structure Laid where
 P:Program
 T:Tab TypeInfo
 F:Tab Func
 keep:Tab (List (Nat×List Nat))
 eqs:Tab Bool
 G:Nat->Option (List AV)
 thaw:Nat->Bool
 ro:Nat->Bool
 ext:Nat->Bool
 lend:Nat->Bool:=λ_=>false
 prim:Nat->List AV->Option (AV×a03):=λ_ _=>none
 zf:Nat->Bool:=λ_=>false
 zn:Nat->Nat:=λ_=>0
 zj:Nat->Nat:=λ_=>0
 raw:Nat->Bool:=λ_=>false
def Laid.rnd(L:Laid)(y:Nat):Option RInfo:=match L.F.get (y/100000)with
 |some fn=>match fn.body with
  |some c=>b4v (y%100000) (rfs fn.ntmps (y/100000) 0 c)
  |none=>none
 |none=>none
def c5a(keep:Nat->List Nat)(f:Nat)(l:List (Nat×RInfo)):Bool:=a54 (l.map (·.1))&&l.all λx=>Nat.blt x.1 100000&&(match yOf (keep x.1)with|some y=>Nat.beq y (f*100000+x.1)|none=>false)&&a8z x.2.asg&&a8z x.2.body&&b68 x.2.asg&&b68 x.2.body
def Laid.env(L:Laid):Env:={
 P:=L.P
 und:=d8q L.T
 sz:=λt=>match L.T.get t with|some i=>i.size|none=>0
 bytes:=λt=>match L.T.get t with|some i=>i.bytes|none=>0
 zero:=d9z L.T
 eqok:=λt=>match L.eqs.get t with|some b=>b|none=>false
 G:=⟨L.G,L.rnd⟩
 fn:=λf=>match L.F.get f with
  |some fn=>match fn.body with
   |some c=>some ⟨c,fn.ntmps,fn.results.toList⟩
   |none=>none
  |none=>none
 keep:=λf=>match L.keep.get f with|some l=>e5l l|none=>λ_=>[]
 thaw:=L.thaw
 ro:=L.ro
 ext:=λf=>L.ext f||(L.lend f&&(match L.F.get f with|some fn=>fn.body.isSome|none=>false))
 prim:=L.prim
 zf:=L.zf
 zn:=L.zn
 zj:=L.zj
 raw:=L.raw }
structure LaidOk(L:Laid):Prop where
 types:∀i x,L.T.get i=some x->L.P.types[i]?=some x
 funcs:∀i x,L.F.get i=some x->L.P.funcs[i]?=some x
 shape:L.T.all (d93 L.T)=true
 names:L.F.all (λ_ fn=>!(fn.name == "runtime.NumGoroutine"))=true
 eqs:L.eqs.all (λt b=>!b||e79 L.P L.T t)=true
 ext:∀f,L.ext f=true->∃fn,L.P.funcs[f]?=some fn∧fn.body=none∧(fn.name == "runtime.NumGoroutine")=false∧Extern.findNext fn=none∧Extern.find fn=some Extern.BytealgIndexByte.indexByte
 mixed:L.P.follows .mixedOrders=true
 draws:L.F.all (λ_ fn=>match fn.body with|some c=>a8z c|none=>true)=true
 yid:(L.F.get yId).isNone=true
 rf:L.F.all (λf fn=>match fn.body with|some c=>c5a (L.env.keep f) f (rfs fn.ntmps f 0 c)|none=>true)=true
theorem b7s{α:Type}{t:Tab α}{l:List α}{n:Nat}(h1:t.from 0=some n)(h2:t.toList=l):∀i x,t.get i=some x->l.toArray[i]?=some x:=by intro i x h;obtain⟨_,h3⟩:=Tab.get_from h1 h;rw[h2]at h3;simpa using h3
section
variable {L:Laid}(ok:LaidOk L)
include ok
theorem b1v{t:Nat}{i:TypeInfo}(h:L.T.get t=some i):L.P.info? t=some i:=by have h1:=ok.types t i h;have h2:=(f5b.1 h1).1;show(if t<L.P.types.size then L.P.types[t]? else _)=_;rw[f2w h2];exact h1
theorem d8p{t:Nat}{d:TypeDesc}(h:d8q L.T t=some d):L.P.underlying t=some d∧∃i,L.T.get t=some i:=by
 unfold d8q at h;split at h
 case h_2=>cases h
 rename_i i hi;refine⟨?_,i,hi⟩;have h1:=b1v ok hi;unfold Program.underlying;rw[h1];split at h
 ·rename_i nm u hd;split at h
  case h_2=>cases h
  rename_i j hj;cases h;have h2:=b1v ok hj;cases i;simp only at hd;subst hd;simp[h2]
 ·rename_i d' aw;cases h;cases i;rename_i dd _ _ _ _ _ _ _ _ _;cases dd<;>first|rfl|exact absurd rfl (aw _ _)
theorem LaidOk.envOk:EnvOk L.env:={
 und t d h:=by obtain⟨h1,i,hi⟩:=d8p ok h;exact⟨h1,i,b1v ok hi,by simp[Laid.env,hi],by simp[Laid.env,hi]⟩
 zero t cs h:=by
  have h:d9z L.T t=some cs:=h;unfold d9z at h;split at h
  case h_2=>cases h
  rename_i i hi;split at h
  case h_2=>cases h
  rename_i z hz;rw[cond_eq_ite]at h;split at h
  case isFalse=>cases h
  rename_i hc;simp only[f1d,g0j]at hc;cases h;refine⟨f1j.1 hc.1,i,z,b1v ok hi,hz,by simp[Laid.env,hi,hc.2],λI w=>a7w _⟩
 zshape t d i z hd hi hz:=by
  obtain⟨_,j,hj⟩:=d8p ok hd;have jb:=b1v ok hj;have:i=j:=z9o (hi.symm.trans jb);subst this;have hs:=Tab.all_get ok.shape hj;have hd:d8q L.T t=some d:=hd;simp only[d93,hd,hz]at hs;cases z with
  |agg a=>simp only at hs;exact⟨λ_=>⟨a,rfl⟩,λh=>by rw[hs]at h;cases h⟩
  |_=>simp only[f6z]at hs;exact⟨λh=>(by rw[hs]at h;cases h),λ_=>rfl⟩
 eqok t h:=by
  have h:(match L.eqs.get t with|some b=>b|none=>false)=true:=h;split at h
  case h_2=>cases h
  rename_i b hb;subst h;have h:=Tab.all_get ok.eqs hb;simp only[f8t,Bool.false_or,e79,f1d,f6z]at h;obtain⟨⟨⟨h1,h2⟩,h3⟩,h4⟩:=h;refine⟨h1,h2,?_,?_⟩
  ·split at h3
   ·rename_i i hi;exact⟨i,b1v ok hi,h3⟩
   ·cases h3
  ·intro fs lL f hf;have lL:d8q L.T t=some (.struct fs):=lL;rw[lL]at h4;simp only[f4l,f6z,f6o]at h4;exact h4 f hf
 fn f i h:=by
  have h:(match L.F.get f with
   |some fn=>match fn.body with
    |some c=>some (⟨c,fn.ntmps,fn.results.toList⟩:FInfo)
    |none=>none
   |none=>none)=some i:=h
  split at h
  case h_2=>cases h
  rename_i fn bE;split at h
  case h_2=>cases h
  rename_i c hc;cases h;have hn:=Tab.all_get ok.names bE;exact⟨fn,ok.funcs f fn bE,hc,rfl,rfl,by simpa using hn⟩
 ext f h bE:=by
  have h:(L.ext f||(L.lend f&&(match L.F.get f with|some fn=>fn.body.isSome|none=>false)))=true:=h;have bE:(match L.F.get f with
   |some fn=>match fn.body with
    |some c=>some (⟨c,fn.ntmps,fn.results.toList⟩:FInfo)
    |none=>none
   |none=>none).isSome=false:=bE
  rcases Bool.or_eq_true_iff.1 h with h|h
  ·exact ok.ext f h
  ·exfalso;have h:=(Bool.and_eq_true_iff.1 h).2;cases hx:L.F.get f with
   |none=>rw[hx]at h;cases h
   |some fn=>
    rw[hx]at h bE;cases hb:fn.body with
    |none=>simp[hb]at h
    |some c=>simp[hb]at bE
 mixed:=ok.mixed
 yid:=by
  have h:=ok.yid;show(match L.F.get yId with
   |some fn=>match fn.body with
    |some c=>some (⟨c,fn.ntmps,fn.results.toList⟩:FInfo)
    |none=>none
   |none=>none)=none
  cases hx:L.F.get yId with
  |none=>rfl
  |some fn=>rw[hx]at h;cases h}
omit ok in
theorem Laid.fn_inv{f:Nat}{i:FInfo}(h:L.env.fn f=some i):∃fn c,L.F.get f=some fn∧fn.body=some c∧i=⟨c,fn.ntmps,fn.results.toList⟩:=by
 have h:(match L.F.get f with
  |some fn=>match fn.body with
   |some c=>some (⟨c,fn.ntmps,fn.results.toList⟩:FInfo)
   |none=>none
  |none=>none)=some i:=h
 split at h
 case h_2=>cases h
 rename_i fn bE;split at h
 case h_2=>cases h
 rename_i c hc;cases h;exact⟨fn,c,bE,hc,rfl⟩
omit ok in
theorem b7h{cur:Nat}{ri:RInfo}:∀{l:List (Nat×RInfo)},b4v cur l=some ri->(cur,ri)∈l
 | [],h=>by simp[b4v]at h
 |(c,r)::l,h=>by
  simp only[b4v,cond_eq_ite]at h;split at h
  ·rename_i hc;have hc:=f7o hc;cases h;subst hc;simp
  ·exact f6r _ (b7h h)
omit ok in
theorem c1m{x:Nat×RInfo}:∀{l:List (Nat×RInfo)},(l.map (·.1)).Nodup->x∈l->b4v x.1 l=some x.2
 | [],_,h=>by cases h
 |(c,r)::l,hn,h=>by
  simp only[f1a]at hn;have hn:=f8j.1 hn;simp only[b4v,cond_eq_ite];rcases f4h.1 h with rfl|h
  ·simp
  ·have aw:c≠x.1:=λe=>hn.1 (by rw[e];exact f7b h);rw[f2m (by rw[g0j];exact aw)];exact c1m hn.2 h
theorem LaidOk.good{f:Nat}{fn:Func}{c:Code}(bE:L.F.get f=some fn)(hc:fn.body=some c):c5a (L.env.keep f) f (rfs fn.ntmps f 0 c)=true:=by have:=Tab.all_get ok.rf bE;simpa[hc]using this
def e83(L:Laid):Prop:=∀f args v H1,L.prim f args=some (v,H1)->a9a L.env f λa H=>match a,H with
 |a,[]=>L.env.prim f a
 |_,_=>none
theorem LaidOk.drawnP(hP:e83 L):DrOk L.env:={
 prim:=hP
 draws f i h:=by obtain⟨fn,c,bE,hc,rfl⟩:=Laid.fn_inv h;have:=Tab.all_get ok.draws bE;simpa[hc]using this
 rf f i h x hx:=by
  obtain⟨fn,c,bE,hc,rfl⟩:=Laid.fn_inv h;have hg:=ok.good bE hc;simp only[c5a,f1d,f4l]at hg;have fD:=hg.2 x hx;obtain⟨⟨⟨⟨⟨h1,h2⟩,_⟩,_⟩,_⟩,_⟩:=fD;split at h2
  case h_2=>cases h2
  rename_i y hy;have h2:=f7o h2;have h1:x.1<100000:=by simpa[f4o]using h1
  refine⟨y,hy,?_⟩;show L.rnd y=some x.2;have e1:y/100000=f:=by omega
  have e2:y%100000=x.1:=by omega
  unfold Laid.rnd;rw[e1,e2,bE];simp only[hc];exact c1m (a9l hg.1) hx
 rnd y ri h:=by
  have h:L.rnd y=some ri:=h;unfold Laid.rnd at h;split at h
  case h_2=>cases h
  rename_i fn bE;split at h
  case h_2=>cases h
  rename_i c hc;have hg:=ok.good bE hc;simp only[c5a,f1d,f4l]at hg;have fD:=hg.2 _ (b7h h);exact⟨fD.1.1.1.2,fD.1.1.2,fD.1.2,fD.2⟩}
theorem LaidOk.drawn(hP:∀f args,L.prim f args=none:=by intros;rfl):DrOk L.env:=ok.drawnP λf args v H1 h=>by rw[hP]at h;cases h
end
end Go.Ax
/- AxZ0: a function whose own memory is frozen behind each of its outermost statements: the run of its body. -/
namespace Go.Ax
def e3c(E:Env)(m0 N:Nat)(keep:Nat->List Nat)(call:FuncId->List AV->a03->Option (AV×a03))(lf:Nat){R:Type}:Nat->Code->Frm->a03->(AExit->Frm->a03->Option R)->Option R
 |cur,.seq a b,F,H,k=>e3c E m0 N keep call lf cur a F H λe F' H'=>match e with
  |.normal=>e3c E m0 N keep call lf cur b (b9p m0 H' F') (b0q m0 H') k
  |e=>k e F' H'
 |cur,c,F,H,k=>a4a E m0 N keep call lf cur c F H k
theorem d7t{E:Env}(ok:EnvOk E){call:FuncId->List AV->a03->Option (AV×a03)}(af:a45 E call){fid:Nat}{e:Entry}{N lf:Nat}{keep:Nat->List Nat}{R:Type}:∀(c:Code),a8z c=true->
 ∀{cur:Nat},RFOk E fid N keep none cur c->∀{k:AExit->Frm->a03->Option R} {r:R} {Q:Exit->Act->World->Prop},(∀x F H I ρ a w,Now E e N F H I ρ a w->k x F H=some r->Q x.conv a w)->
 ∀{F:Frm} {H:a03} {I:Nat->Prop} {ρ:PMap} {a:Act} {w:World},Now E e N F H I ρ a w->e3c E e.m N keep call lf cur c F H k=some r->c.wpIn (wf none) 0 E.P Q a w:=by
 intro c
 induction c with
 |seq x y ihx ihy=>
  intro az cur aI k r Q hQ F H I ρ a w aj ae;have az:a2u false (.seq x y)=true:=az;simp only[a2u,f1d]at az;refine wpIn_seq (ihx az.1 aI.seq1 ?_ aj ae);intro x F H I ρ a w hn hk;cases x with
  |normal=>obtain⟨I',ρ',h'⟩:=hn.frz 0;exact ihy az.2 aI.seq2 hQ h' hk
  |exit id=>exact hQ (.exit id) F H I ρ a w hn hk
  |ret=>exact hQ .ret F H I ρ a w hn hk
 |_=>intro az cur aI k r Q hQ F H I ρ a w aj ae;exact b0k (ro:=none) ok af _ az aI hQ aj ae
def e4w(E:Env)(m0 N:Nat)(keep:Nat->List Nat)(call:FuncId->List AV->a03->Option (AV×a03))(lf j:Nat){R:Type}:Nat->Nat->Code->Frm->a03->(AExit->Frm->a03->Option R)->Option R
 |0,cur,c,F,H,k=>a4a E m0 N keep call lf cur c F H k
 |n+1,cur,c,F,H,k=>match c with
  |.seq a b=>a4a E m0 N keep call lf cur a F H λe F' H'=>match e with
   |.normal=>e4w E m0 N keep call lf j n cur b (b9p (m0+j) H' F') (b0q (m0+j) H') k
   |e=>k e F' H'
  |c=>a4a E m0 N keep call lf cur c F H k
theorem d7u{E:Env}(ok:EnvOk E){call:FuncId->List AV->a03->Option (AV×a03)}(af:a45 E call){fid:Nat}{e:Entry}{N lf j:Nat}{keep:Nat->List Nat}{R:Type}:∀(n:Nat) (c:Code),a2u false c=true->
 ∀{cur:Nat},RFOk E fid N keep none cur c->∀{k:AExit->Frm->a03->Option R} {r:R} {Q:Exit->Act->World->Prop},(∀x F H I ρ a w,Now E e N F H I ρ a w->k x F H=some r->Q x.conv a w)->
 ∀{F:Frm} {H:a03} {I:Nat->Prop} {ρ:PMap} {a:Act} {w:World},Now E e N F H I ρ a w->e4w E e.m N keep call lf j n cur c F H k=some r->c.wpIn (wf none) 0 E.P Q a w:=by
 intro n
 induction n with
 |zero=>intro c az cur aI k r Q hQ F H I ρ a w aj ae;exact b0k (ro:=none) ok af c az aI hQ aj ae
 |succ n ih=>
  intro c;cases c with
  |seq x y=>
   intro az cur aI k r Q hQ F H I ρ a w aj ae;have az:a2u false (.seq x y)=true:=az;simp only[a2u,f1d]at az;refine wpIn_seq (b0k (ro:=none) ok af x az.1 aI.seq1 ?_ aj ae);intro x F H I ρ a w hn hk;cases x with
   |normal=>obtain⟨I',ρ',h'⟩:=hn.frz j;exact ih _ az.2 aI.seq2 hQ h' hk
   |exit id=>exact hQ (.exit id) F H I ρ a w hn hk
   |ret=>exact hQ .ret F H I ρ a w hn hk
  |_=>intro az cur aI k r Q hQ F H I ρ a w aj ae;exact b0k (ro:=none) (lf:=lf) ok af _ az aI hQ aj ae
def e4x(E:Env)(z:Bool)(zn zj:Nat)(m0 N:Nat)(keep:Nat->List Nat)(call:FuncId->List AV->a03->Option (AV×a03))(lf:Nat){R:Type}(cur:Nat)(c:Code)(F:Frm)(H:a03)(k:AExit->Frm->a03->Option R):Option R:=bif z then(match zn with|0=>e3c E m0 N keep call lf cur c F H k|n+1=>e4w E m0 N keep call lf zj n cur c F H k)else a4a E m0 N keep call lf cur c F H k
end Go.Ax
/- AxMemo: calls whose answer is known already. -/
namespace Go.Ax
def e4i:List UInt8->List UInt8->Bool
 | [],[]=>true
 |a::r,b::s=>Nat.beq a.toNat b.toNat&&e4i r s
 |_,_=>false
theorem d3h:∀{a b:List UInt8},e4i a b=true->a=b
 | [],[],_=>rfl
 | [],_::_,h=>by simp[e4i]at h
 |_::_,[],h=>by simp[e4i]at h
 |a::r,b::s,h=>by simp only[e4i,f1d,g0j]at h;rw[d3h h.2,UInt8.toNat_inj.1 h.1]
def eqO:Option Nat->Option Nat->Bool
 |none,none=>true
 |some a,some b=>Nat.beq a b
 |_,_=>false
theorem e7b{a b:Option Nat}(h:eqO a b=true):a=b:=by cases a<;>cases b<;>simp_all[eqO]
def eqI:Int->Int->Bool
 |.ofNat a,.ofNat b=>Nat.beq a b
 |.negSucc a,.negSucc b=>Nat.beq a b
 |_,_=>false
theorem e7c{a b:Int}(h:eqI a b=true):a=b:=by cases a<;>cases b<;>simp_all[eqI]
mutual
def eqV:AV->AV->Bool
 |.bool a,.bool b=>match a,b with|true,true=>true|false,false=>true|_,_=>false
 |.int k n,.int k' n'=>decide (k=k')&&eqI n n'
 |.str s,.str t=>e4i s t
 |.nilptr,.nilptr=>true
 |.nilslice,.nilslice=>true
 |.nilmap,.nilmap=>true
 |.nilfunc,.nilfunc=>true
 |.nilifc,.nilifc=>true
 |.iptr cs,.iptr ds=>eqL cs ds
 |.islice r c,.islice r' c'=>eqO c c'&&eqR r r'
 |.agg cs,.agg ds=>eqL cs ds
 |.tuple cs,.tuple ds=>eqL cs ds
 |.iset a,.iset b=>decide (a=b)
 |_,_=>false
def eqL:List AV->List AV->Bool
 | [],[]=>true
 |a::r,b::s=>eqV a b&&eqL r s
 |_,_=>false
def eqR:List (List AV)->List (List AV)->Bool
 | [],[]=>true
 |a::r,b::s=>eqL a b&&eqR r s
 |_,_=>false
end
mutual
theorem e7a:∀(a b:AV),eqV a b=true->a=b
 |.bool a,b,h=>by cases b<;>simp only[eqV]at h<;>first|(cases h;done)|(split at h<;>first|rfl|cases h)
 |.int k n,b,h=>by
  cases b<;>simp only[eqV]at h<;>first|(cases h;done)|skip
  simp only[f1d,f2y]at h;rw[h.1,e7c h.2]
 |.str s,b,h=>by cases b<;>simp only[eqV]at h<;>first|(cases h;done)|rw[d3h h]
 |.nilptr,b,h=>by cases b<;>simp only[eqV]at h<;>first|rfl|(cases h;done)
 |.nilslice,b,h=>by cases b<;>simp only[eqV]at h<;>first|rfl|(cases h;done)
 |.nilmap,b,h=>by cases b<;>simp only[eqV]at h<;>first|rfl|(cases h;done)
 |.nilfunc,b,h=>by cases b<;>simp only[eqV]at h<;>first|rfl|(cases h;done)
 |.nilifc,b,h=>by cases b<;>simp only[eqV]at h<;>first|rfl|(cases h;done)
 |.iptr cs,b,h=>by cases b<;>simp only[eqV]at h<;>first|(cases h;done)|rw[b82 _ _ h]
 |.islice r c,b,h=>by
  cases b<;>simp only[eqV]at h<;>first|(cases h;done)|skip
  simp only[f1d]at h;rw[e7b h.1,d9k _ _ h.2]
 |.agg cs,b,h=>by cases b<;>simp only[eqV]at h<;>first|(cases h;done)|rw[b82 _ _ h]
 |.tuple cs,b,h=>by cases b<;>simp only[eqV]at h<;>first|(cases h;done)|rw[b82 _ _ h]
 |.junk,b,h=>by simp[eqV]at h
 |.ptr ..,b,h=>by simp[eqV]at h
 |.slice ..,b,h=>by simp[eqV]at h
 |.map ..,b,h=>by simp[eqV]at h
 |.yfn ..,b,h=>by simp[eqV]at h
 |.imap ..,b,h=>by simp[eqV]at h
 |.iset a,b,h=>by cases b<;>simp only[eqV]at h<;>first|(cases h;done)|rw[of_decide_eq_true h]
 |.func ..,b,h=>by simp[eqV]at h
 |.iface ..,b,h=>by simp[eqV]at h
theorem b82:∀(a b:List AV),eqL a b=true->a=b
 | [],b,h=>by cases b<;>simp[eqL]at h<;>rfl
 |x::r,b,h=>by
  cases b<;>simp only[eqL]at h
  ·cases h
  ·simp only[f1d]at h;rw[e7a _ _ h.1,b82 _ _ h.2]
theorem d9k:∀(a b:List (List AV)),eqR a b=true->a=b
 | [],b,h=>by cases b<;>simp[eqR]at h<;>rfl
 |x::r,b,h=>by
  cases b<;>simp only[eqR]at h
  ·cases h
  ·simp only[f1d]at h;rw[b82 _ _ h.1,d9k _ _ h.2]
end
structure Fact where
 g:Nat
 args:List AV
 v:AV
def d9w(E:Env)(x:Fact):Prop:=
 ∀(I K:Nat->Prop) (ρ:PMap) (w:World) (an:List Value),HRel E.G I K ρ (a02 []) w->NRel ρ 0->VRels I w ρ x.args an->
  XOf E x.g an w λen w'=>∃c I' ρ',en = .returned c∧Ret E I K ρ 0 w I' ρ' [] w'∧VRel I' w' ρ' x.v c
def e5m:List Fact->FuncId->List AV->Option AV
 | [],_,_=>none
 |x::r,g,args=>bif Nat.beq x.g g&&eqL x.args args then some x.v else e5m r g args
def f1s(M:List Fact)(call:FuncId->List AV->a03->Option (AV×a03))(g:FuncId)(args:List AV)(H:a03):Option (AV×a03):=
 match H with
 | []=>match e5m M g args with
  |some v=>some (v,[])
  |none=>call g args []
 |b::r=>call g args (b::r)
def c1b(E:Env)(f:FuncId)(args:List AV)(H:a03):Option (AV×a03):=match H with
 | []=>E.prim f args
 |_=>none
def b0t(E:Env)(call:FuncId->List AV->a03->Option (AV×a03))(lf:Nat)(f:FuncId)(args:List AV)(H:a03):Option (AV×a03):=
 match c1b E f args H with
 |some r=>some r
 |none=>match E.fn f with
 |none=>bif Nat.beq f yId then a9e E call lf args H else none
 |some i=>bif Nat.ble args.length i.ntmps then
  e4x E (E.zf f) (E.zn f) (E.zj f) H.length i.ntmps (E.keep f) call lf 0 i.code (a3t 0 args) H λe F' H'=>match e with
   |.exit _=>none
   |_=>match a1c E F' H' i.results with
    |some vs=>c9q E f H.length (a6l vs) H'
    |none=>none
  else none
def d1v(E:Env)(M:List Fact):Nat->FuncId->List AV->a03->Option (AV×a03)
 |0,_,_,_=>none
 |n+1,f,args,H=>f1s M (b0t E (d1v E M n) (n+1)) f args H
theorem d5v{E:Env}(ok:EnvOk E)(jc:DrOk E){call:FuncId->List AV->a03->Option (AV×a03)}(af:a45 E call)(lf:Nat):a45 E (b0t E call lf):=by
 intro g args H v H' ae I K ρ w an rel hn ha;unfold b0t at ae;split at ae
 ·rename_i r hp;cases ae;unfold c1b at hp;split at hp
  case h_2=>cases hp
  exact jc.prim g args v H' hp args [] v H' (by simpa using hp) I K ρ w an rel hn ha
 split at ae
 ·rw[cond_eq_ite]at ae;split at ae
  case isFalse=>cases ae
  rename_i hg;have hg:=f7o hg;subst hg;exact c3m ok jc.rnd af lf args H v H' ae I K ρ w an rel hn ha
 rename_i i hi;rw[cond_eq_ite]at ae;split at ae
 case isFalse=>cases ae
 rename_i bf;refine e6z ok hi bf (k:=λe F' H'=>match e with
  |.exit _=>none
  |_=>match a1c E F' H' i.results with
   |some vs=>c9q E g H.length (a6l vs) H'
   |none=>none) (λx F1 H1 r h=>by cases x<;>exact h) ?_ rel hn ha
 intro e Q he hQ I ρ a w aj;unfold e4x at ae;cases hz:E.zf g with
 |true=>
  rw[hz,f2v]at ae;cases iu:E.zn g with
  |zero=>rw[iu]at ae;refine d7t (e:=e) (lf:=lf) ok af i.code (jc.draws g i hi) (jc.code hi) hQ aj ?_;rw[he];exact ae
  |succ n=>rw[iu]at ae;refine d7u (e:=e) (lf:=lf) (j:=E.zj g) ok af n i.code (jc.draws g i hi) (jc.code hi) hQ aj ?_;rw[he];exact ae
 |false=>rw[hz,f4i]at ae;refine b0k (e:=e) (ro:=none) (lf:=lf) ok af i.code (jc.draws g i hi) (jc.code hi) hQ aj ?_;rw[he];exact ae
end Go.Ax
