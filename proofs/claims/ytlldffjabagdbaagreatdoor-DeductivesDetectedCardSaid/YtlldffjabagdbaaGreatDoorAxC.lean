/- AxSame: values and objects, compared. -/
import Derived.Test.YtlldffjabagdbaaGreatDoorAxA
import Derived.Lib.Bytealg
import Derived.RangeFuncRecord
import Derived.Scope
import Derived.LoopNIn
import Derived.Orders
import Derived.OrdersIn
set_option linter.unusedSimpArgs false
set_option linter.unusedVariables false
namespace Go.Ax
mutual
def b0x:AV→AV→Bool
 |.junk,.junk=>true
 |.bool a,.bool b=>a==b
 |.int k a,.int k' b=>decide (k=k')&&decide (a=b)
 |.str a,.str b=>decide (a=b)
 |.nilptr,.nilptr=>true
 |.nilslice,.nilslice=>true
 |.nilmap,.nilmap=>true
 |.nilfunc,.nilfunc=>true
 |.nilifc,.nilifc=>true
 |.ptr a b c,.ptr d e f=>decide (a=d)&&(decide (b=e)&&decide (c=f))
 |.iptr a,.iptr b=>a9m a b
 |.slice a b c d,.slice e f g h=>decide (a=e)&&(decide (b=f)&&(decide (c=g)&&decide (d=h)))
 |.islice r c,.islice s d=>c0a r s&&decide (c=d)
 |.map a,.map b=>decide (a=b)
 |.imap a b c d,.imap e f g h=>a9m a e&&(a9m b f&&(decide (c=g)&&decide (d=h)))
 |.iset a,.iset b=>decide (a=b)
 |.yfn a,.yfn b=>decide (a=b)
 |.func f a b,.func g c d=>decide (f=g)&&(a9m a c&&a9m b d)
 |.iface t x,.iface u y=>decide (t=u)&&b0x x y
 |.agg a,.agg b=>a9m a b
 |.tuple a,.tuple b=>a9m a b
 |_,_=>false
def a9m:List AV→List AV→Bool
 | [],[]=>true
 |x::xs,y::ys=>b0x x y&&a9m xs ys
 |_,_=>false
def c0a:List (List AV)→List (List AV)→Bool
 | [],[]=>true
 |x::xs,y::ys=>a9m x y&&c0a xs ys
 |_,_=>false
end
mutual
theorem c08:∀(a b:AV),b0x a b=true→a=b
 |a,b,h=>by
  cases a<;>cases b<;>simp only[b0x,d14,f4p,g0i,f9h]at h
  case junk.junk=>rfl
  case bool.bool=>rw[h]
  case int.int=>rw[h.1,h.2]
  case str.str=>rw[h]
  case nilptr.nilptr=>rfl
  case nilslice.nilslice=>rfl
  case nilmap.nilmap=>rfl
  case nilfunc.nilfunc=>rfl
  case nilifc.nilifc=>rfl
  case ptr.ptr=>rw[h.1,h.2.1,h.2.2]
  case iptr.iptr=>rw[a5b _ _ h]
  case slice.slice=>rw[h.1,h.2.1,h.2.2.1,h.2.2.2]
  case islice.islice=>rw[c09 _ _ h.1,h.2]
  case map.map=>rw[h]
  case imap.imap=>rw[a5b _ _ h.1,a5b _ _ h.2.1,h.2.2.1,h.2.2.2]
  case iset.iset=>rw[h]
  case yfn.yfn=>rw[h]
  case func.func=>rw[h.1,a5b _ _ h.2.1,a5b _ _ h.2.2]
  case iface.iface=>rw[h.1,c08 _ _ h.2]
  case agg.agg=>rw[a5b _ _ h]
  case tuple.tuple=>rw[a5b _ _ h]
theorem a5b:∀(a b:List AV),a9m a b=true→a=b
 | [],[],_=>rfl
 |x::xs,y::ys,h=>by simp only[a9m,d14]at h;rw[c08 x y h.1,a5b xs ys h.2]
 | [],_::_,h=>by simp[a9m]at h
 |_::_,[],h=>by simp[a9m]at h
theorem c09:∀(a b:List (List AV)),c0a a b=true→a=b
 | [],[],_=>rfl
 |x::xs,y::ys,h=>by simp only[c0a,d14]at h;rw[a5b x y h.1,c09 xs ys h.2]
 | [],_::_,h=>by simp[c0a]at h
 |_::_,[],h=>by simp[c0a]at h
end
mutual
theorem b2v:∀(a:AV),b0x a a=true
 |.junk|.bool _|.int _ _|.str _|.nilptr|.nilslice|.nilmap|.nilfunc|.nilifc|.ptr _ _ _|.slice _ _ _ _|.map _|.yfn _=>by simp[b0x]
 |.iptr a=>by simp only[b0x];exact a3o a
 |.islice r c=>by simp only[b0x,b2w r,g1u,f9v]
 |.imap a b c d=>by simp only[b0x,a3o a,a3o b,g1u,f9v]
 |.iset a=>by simp only[b0x,g1u]
 |.func f a b=>by simp only[b0x,a3o a,a3o b,g1u,f9v]
 |.iface t x=>by simp only[b0x,b2v x,g1u,f9v]
 |.agg a=>by simp only[b0x];exact a3o a
 |.tuple a=>by simp only[b0x];exact a3o a
theorem a3o:∀(a:List AV),a9m a a=true
 | []=>rfl
 |x::xs=>by simp only[a9m,b2v x,a3o xs,f9v]
theorem b2w:∀(a:List (List AV)),c0a a a=true
 | []=>rfl
 |x::xs=>by simp only[c0a,a3o x,b2w xs,f9v]
end
def c0c:List (Nat×AV)→List (Nat×AV)→Bool
 | [],[]=>true
 |(s,v)::F,(t,u)::G=>Nat.beq s t&&(b0x v u&&c0c F G)
 |_,_=>false
theorem c0b:∀{F G:List (Nat×AV)},c0c F G=true→F=G
 | [],[],_=>rfl
 |(s,v)::F,(t,u)::G,h=>by simp only[c0c,d14,g2e]at h;rw[h.1,c08 _ _ h.2.1,c0b h.2.2]
 | [],_::_,h=>by simp[c0c]at h
 |_::_,[],h=>by simp[c0c]at h
theorem b2y:∀F:List (Nat×AV),c0c F F=true
 | []=>rfl
 |(s,v)::F=>by simp only[c0c,b2v,b2y F,Nat.beq_refl,f9v]
def b2x:Option AObj→Option AObj→Bool
 |none,none=>true
 |some (.row k r),some (.row l s)=>decide (k=l)&&c0a r s
 |some (.map a b c d),some (.map e f g h)=>a9m a e&&(a9m b f&&(decide (c=g)&&decide (d=h)))
 |some (.siter s p),some (.siter t q)=>decide (s=t)&&decide (p=q)
 |some (.uset a),some (.uset b)=>decide (a=b)
 |some (.miter a b c),some (.miter d e f)=>decide (a=d)&&(decide (b=e)&&decide (c=f))
 |some (.yloop a b c),some (.yloop d e f)=>decide (a=d)&&(c0c b e&&decide (c=f))
 |_,_=>false
theorem c72(a b:Option AObj)(h:b2x a b=true):a=b:=by
 unfold b2x at h;split at h
 ·rfl
 ·simp only[d14,f4p]at h;rw[h.1,c09 _ _ h.2]
 ·simp only[d14,f4p]at h;rw[a5b _ _ h.1,a5b _ _ h.2.1,h.2.2.1,h.2.2.2]
 ·simp only[d14,f4p]at h;rw[h.1,h.2]
 ·simp only[f4p]at h;rw[h]
 ·simp only[d14,f4p]at h;rw[h.1,h.2.1,h.2.2]
 ·simp only[d14,f4p]at h;rw[h.1,c0b h.2.1,h.2.2]
 ·cases h
@[go_sem] theorem b8c(a:Option AObj):b2x a a=true:=by
 cases a with
 |none=>rfl
 |some o=>cases o with
  |row k r=>simp only[b2x,b2w,g1u,f9v]
  |map a b c d=>simp only[b2x,a3o,g1u,f9v]
  |siter s p=>simp only[b2x,g1u,f9v]
  |uset a=>simp only[b2x,g1u]
  |miter a b c=>simp only[b2x,g1u,f9v]
  |yloop a b c=>simp only[b2x,b2y,g1u,f9v]
end Go.Ax
/- AxRun: the evaluator: operations in a row, statements, calls. Definitions only. -/
namespace Go.Ax
def a01(H:a03):FHeap:=λb=>(H[b]?).join
def b1i(H:a03):Eff→a03
 |.none=>H
 |.new o=>H++[some o]
 |.set b o=>H.set b (some o)
 |.kill b o=>H.set b none++[some o]
/-! ### what a value refers to -/
mutual
def refs:AV→List Nat
 |.ptr b _ _=>[b]
 |.slice b _ _ _=>[b]
 |.map b=>[b]
 |.yfn b=>[b]
 |.func _ fs cs=>a0l fs++a0l cs
 |.iface _ x=>refs x
 |.agg cs=>a0l cs
 |.tuple cs=>a0l cs
 |.junk|.bool _|.int ..|.str _|.nilptr|.nilslice|.nilmap|.nilfunc|.nilifc|.iptr _|.islice ..|.imap ..|.iset _=>[]
def a0l:List AV→List Nat
 | []=>[]
 |v::vs=>refs v++a0l vs
end
def d72:List (Nat×AV)→List Nat
 | []=>[]
 |(_,v)::r=>refs v++d72 r
theorem d23{F:List (Nat×AV)}{x:Nat×AV}(hx:x∈F){c:Nat}(hc:c∈refs x.2):c∈d72 F:=by
 induction F with
 |nil=>cases hx
 |cons y F ih=>
  simp only[d72,f8n];rcases f6m.1 hx with rfl|hx
  ·exact .inl hc
  ·exact .inr (ih hx)
def a0x:Option AObj→List Nat
 |some (.yloop _ F _)=>d72 F
 |some (.row _ aa)=>aa.flatMap a0l
 |some (.map ks vs _ _)=>a0l ks++a0l vs
 |_=>[]
def a1n:List Nat→Nat→Bool
 | [],_=>false
 |a::r,x=>bif Nat.beq a x then true else a1n r x
theorem a3i{l:List Nat}{x:Nat}:a1n l x=true↔x∈l:=by
 induction l with
 |nil=>simp[a1n]
 |cons a r ih=>
  simp only[a1n,d63,cond_eq_ite,f6m];by_cases h:a=x
  ·simp[h]
  ·simp only[f9i.2 h,f9h,g0z,ih];exact⟨.inr,λh'=>h'.resolve_left (λe=>h e.symm)⟩
def a3g(H:a03):Nat→List Nat→List Nat→List Nat
 |0,_,aC=>aC.reverse
 |_+1,[],aC=>aC.reverse
 |n+1,b::todo,aC=>bif a1n aC b then a3g H n todo aC else a3g H n (a0x (a01 H b)++todo) (b::aC)
def a6f:Nat:=1000000
/-! ### renaming a heap -/
def b0m(σ:List Nat):Nat→Option Nat:=λb=>σ.idxOf? b
def a5a(H:a03)(σ:List Nat)(π:Nat→Option Nat):a03:=σ.map λb=>(a01 H b).map (a0t π)
def a1w(σ:List Nat)(n:Nat):Nat→Option Nat:=λj=>bif Nat.blt j σ.length then σ[j]? else some (n+(j-σ.length))
def a1d(σ:List Nat)(n:Nat)(H1:a03):Nat→a03→a03
 |_,[]=>[]
 |b,o::r=>(match σ.idxOf? b with
  |some j=>(a01 H1 j).map (a0t (a1w σ n))
  |none=>o)::a1d σ n H1 (b+1) r
def a6g:List Nat→Bool
 | []=>true
 |b::r=>!(a1n r b)&&a6g r
def a3j(run:List AV→a03→Option (AV×a03))(args:List AV)(H:a03):Option (AV×a03×List Nat):=
 let σ:=a3g H a6f (a0l args) []
 bif a6g σ&&σ.all (λb=>Nat.blt b H.length)then
  match run (args.map (ren (b0m σ))) (a5a H σ (b0m σ))with
  |some (v,H1)=>some (ren (a1w σ H.length) v,a1d σ H.length H1 0 H++(H1.drop σ.length).map (Option.map (a0t (a1w σ H.length))),σ)
  |none=>none
 else none
/-! ### lent calls -/
mutual
def noI:AV→Bool
 |.iptr _=>false
 |.islice _ _=>false
 |.imap _ _ _ _=>false
 |.iset _=>false
 |.func _ fs cs=>c7e fs&&c7e cs
 |.iface _ x=>noI x
 |.agg cs=>c7e cs
 |.tuple cs=>c7e cs
 |.junk|.bool _|.int ..|.str _|.nilptr|.nilslice|.nilmap|.nilfunc|.nilifc|.ptr _ _ _|.slice _ _ _ _|.map _|.yfn _=>true
def c7e:List AV→Bool
 | []=>true
 |v::vs=>noI v&&c7e vs
end
def e15:AObj→Bool
 |.row _ aa=>aa.all c7e
 |.map ks vs _ _=>c7e ks&&c7e vs
 |.siter _ _=>true
 |.uset _=>true
 |_=>false
def a7w(H:a03):FHeap:=λb=>match a01 H b with
 |some o=>bif e15 o then some o else none
 |none=>none
def a9y(run:List AV→a03→Option (AV×a03))(args:List AV)(H:a03):Option (AV×a03×List Nat):=
 match a5t 0 false (a54 (a01 H) 0 12) args with
 |some au=>match run au []with
  |some (v,H1)=>bif noI v then match a4j 0 false (a54 (a7w H1) 0 12) v with
   |some v'=>some (v',H,List.range H.length)
   |none=>none
   else none
  |none=>none
 |none=>none
def f7h(args:List AV):Option AV:=
 match args with
 | [.str s,.int .u8 c]=>some (.int .i64 (Lib.indexByte s c.toNat.toUInt8))
 |_=>none
def a0b(E:Env)(ag:Bool)(call:FuncId→List AV→a03→Option (AV×a03))(f:AV)(args:List AV)(H:a03):Option (AV×a03×List Nat):=
 match f with
 |.func (.func g) fs cs=>bif E.ext g then(bif (E.fn g).isSome then a9y (call g) (fs++args++cs) H else match f7h (fs++args++cs)with
  |some v=>some (v,H,[])
  |none=>none)
  else bif (E.fn g).isSome then
   match a3j (call g) (fs++args++cs) H with
   |some (v,H',σ)=>bif ag && !(Nat.ble H.length H'.length)then none else some (v,H',σ)
   |none=>none
  else none
 |.yfn b=>match a3j (call yId) (.yfn b::args) H with
  |some (v,H',σ)=>bif ag && !(Nat.ble H.length H'.length)then none else some (v,H',σ)
  |none=>none
 |_=>none
/-! ### operations in a row -/
structure LogE where
 needs:List Nat
 keys:List Nat
def Eff.keys(n:Nat):Eff→List Nat
 |.none=>[]
 |.new _=>[n]
 |.set b _=>[b]
 |.kill b _=>[b,n]
def Eff.fits(n:Nat):Eff→Bool
 |.set b _=>Nat.blt b n
 |.kill b _=>Nat.blt b n
 |_=>true
def a0o:AV→List Nat
 |.ptr b _ _=>[b]
 |.slice b _ _ _=>[b]
 |.map b=>[b]
 |_=>[]
def a9e(op:Op)(v:Operand→AV):List Nat:=
 match op with
 |.load _ a=>a0o (v a)
 |.store _ a _=>a0o (v a)
 |.convert _ _ x=>a0o (v x)
 |.slice _ x _ _ _=>a0o (v x)
 |.indexAddr _ x _=>a0o (v x)
 |.lookup _ m _ _=>a0o (v m)
 |.mapUpdate _ m _ _=>a0o (v m)
 |.insert _ m _ _=>a0o (v m)
 |.mapEntry _ m _=>a0o (v m)
 |.entryStore _ m _ _=>a0o (v m)
 |.next it _=>a0o (v it)
 |.entry it=>a0o (v it)
 |.call { callee:=.builtin _,args,.. }=>args.toList.flatMap λx=>a0o (v x)
 |_=>[]
def a7o(E:Env)(f:AV)(H H':a03)(σ:List Nat):Bool:=match f with
 |.func (.func g) _ _=>E.ro g&&σ.all λb=>b2x (a01 H b) (a01 H' b)
 |_=>false
def b7z(ro:Bool)(σ:List Nat)(n n':Nat):List Nat:=bif Nat.beq n' n then(bif ro then[]else σ)else σ++List.range' n (n'-n)
def a0w(E:Env)(ag:Bool)(call:FuncId→List AV→a03→Option (AV×a03))(F:Frm)(H:a03)(op:Op):Option (AV×a03×LogE):=
 match op with
 |.call { callee:=.value f,args,.. }=>match a0b E ag call (opv E F f) (args.toList.map (opv E F)) H with
  |some (v,H',σ)=>some (v,H',⟨σ,b7z (a7o E (opv E F f) H H' σ) σ H.length H'.length⟩)
  |none=>none
 |op=>match aop E H.length (a01 H) op (opv E F)with
  |some (v,e)=>bif e.fits H.length then some (v,b1i H e,⟨a9e op (opv E F),e.keys H.length⟩)else none
  |none=>none
def a8f(N:Nat):Option Tmp→Bool
 |none=>true
 |some d=>Nat.blt d N
def b64(a b:List Nat):Bool:=a.any λx=>a1n b x
def LogE.clash(x y:LogE):Bool:=b64 x.keys y.needs||b64 x.keys y.keys||b64 x.needs y.keys
def b20(all:List Oper)(i:Nat):Nat→Nat→Bool
 |0,_=>false
 |n+1,j=>match all[j]? with
  |some o=>o.after.toList.any λe=>Region.binds .any e&&(e.on==i||b20 all i n e.on)
  |none=>false
def e1i(all:List Oper)(i j:Nat):Bool:=
 match all[j]? with
 |some o=>o.after.toList.any λe=>Region.binds .any e&&e.on==i
 |none=>false
def a5e(all:List Oper)(i j:Nat):Bool:=e1i all i j||b20 all i all.length j
def logOk(all:List Oper):Nat→List LogE→Bool
 |_,[]=>true
 |0,_::_=>false
 |j+1,y::af=>logRow all j y j af&&logOk all j af
 where logRow (all:List Oper) (j:Nat) (y:LogE):Nat→List LogE→Bool
 |_,[]=>true
 |0,_::_=>false
 |i+1,x::af=>(!(x.clash y)||a5e all i j)&&logRow all j y i af
def a3m(all:List Oper)(j:Nat):Option Nat:=(all[j]?).bind (·.dst)
def a2z(E:Env)(ag:Bool)(N:Nat)(call:FuncId→List AV→a03→Option (AV×a03))(all:List Oper){R:Type} :
 List Oper→List LogE→Frm→a03→(Frm→a03→Option R)→Option R
 | [],log,F,H,k=>bif !ag||logOk all log.length log then k F H else none
 |o::af,log,F,H,k=>
  bif a8f N o.dst then
   match o.guard with
   |none=>match a0w E ag call F H o.op with
    |some (v,H',l)=>a2z E ag N call all af (l::log) (a4i F o.dst v) H' k
    |none=>none
   |some (j,bI)=>match a3m all j with
    |none=>none
    |some d=>match a34 F d with
     |.bool b=>bif b then
      (bif bI then match a0w E ag call (a4i F (some d) (.bool true)) H o.op with
       |some (v,H',l)=>a2z E ag N call all af (l::log) (a4i (a4i F (some d) (.bool true)) o.dst v) H' k
       |none=>none
      else a2z E ag N call all af (⟨[],[]⟩::log) (a4i (a4i F (some d) (.bool true)) o.dst (.tuple [])) H k)
      else
       (bif bI then a2z E ag N call all af (⟨[],[]⟩::log) (a4i (a4i F (some d) (.bool false)) o.dst (.tuple [])) H k
       else match a0w E ag call (a4i F (some d) (.bool false)) H o.op with
        |some (v,H',l)=>a2z E ag N call all af (l::log) (a4i (a4i F (some d) (.bool false)) o.dst v) H' k
        |none=>none)
     |.tuple []=>a2z E ag N call all af (⟨[],[]⟩::log) (a4i F o.dst (.tuple [])) H k
     |_=>none
  else none
/-! ### statements -/
inductive AExit where
 |normal
 |exit (id:Nat)
 |ret
def a2c(keep:List Nat)(F:Frm):Frm:=keep.map λs=>(s,a34 F s)
def b3e(m0:Nat)(F:Frm)(H:a03):List Nat:=(a3g H a6f ((H.take m0).flatMap a0x++a0l (F.map (·.2))) []).filter λb=>Nat.ble m0 b
def c1b(m0:Nat)(σ:List Nat):Nat→Option Nat:=λb=>bif Nat.blt b m0 then some b else(σ.idxOf? b).map (m0 + ·)
def c0f(π:Nat→Option Nat)(F:Frm):Frm:=F.map λx=>(x.1,ren π x.2)
def gcH(m0:Nat)(σ:List Nat)(H:a03):a03:=(H.take m0).map (Option.map (a0t (c1b m0 σ)))++a5a H σ (c1b m0 σ)
def b4o(m0:Nat)(keep:List Nat){R:Type}(body:Frm→a03→(AExit→Frm→a03→Option R)→Option R):Nat→Frm→a03→(AExit→Frm→a03→Option R)→Option R
 |0,_,_,_=>none
 |n+1,F,H,k=>
  let F1:=a2c keep F
  let σ:=b3e m0 F1 H
  bif a6g σ&&σ.all (λb=>Nat.ble m0 b)&&Nat.ble m0 H.length then
   body (c0f (c1b m0 σ) F1) (gcH m0 σ H) λe F' H'=>match e with
    |.normal=>b4o m0 keep body n F' H' k
    |e=>k e F' H'
  else none
/-! ### ranging over a set -/
def gcD(m0:Nat)(keep:List Nat)(F:Frm)(H:a03):Option (Frm×a03):=
 let F1:=a2c keep F
 let σ:=b3e m0 F1 H
 bif a6g σ&&σ.all (λb=>Nat.ble m0 b)&&Nat.ble m0 H.length then some (c0f (c1b m0 σ) F1,gcH m0 σ H)else none
def d0z:List Oper→Option (Nat×Nat×List Oper)
 | []=>none
 |o::af=>match o.op,o.dst,o.guard with
  |.next (.tmp it) false,some nx,none=>some (it,nx,af)
  |_,_,_=>none
def b0q:Code→Option Nat
 |.seq (.region _ al false) _=>(d0z al.toList).map (·.1)
 |_=>none
def c0t(F:Frm)(H:a03)(it:Nat):Option (AV×a03):=match a34 F it with
 |.ptr b 0 0=>match a01 H b with
  |some (.miter ks b9 (some (some i)))=>some (.tuple [.bool true,.int .i64 i,.bool true],H.set b (some (.miter ks (b9++[i]) none)))
  |some (.miter ks b9 (some none))=>some (.tuple [.bool false],H.set b (some (.miter ks b9 none)))
  |_=>none
 |_=>none
abbrev R3:=AExit×Frm×a03
def f2m(ks aC:List Int)(a:Option Int)(F:Frm)(H:a03)(it:Nat):Option a03:=match a34 F it with
 |.ptr b 0 0=>match a01 H b with
  |some (.miter ku b9 _)=>bif decide (ku=ks)&&decide (b9=aC)then some (H.set b (some (.miter ks b9 (some a))))else none
  |_=>none
 |_=>none
def dropIt(F:Frm)(H:a03)(it:Nat):a03:=match a34 F it with
 |.ptr b _ _=>H.set b none
 |_=>H
def b0p(m0 it:Nat)(keep:List Nat)(ks aC:List Int)(body:Frm→a03→(AExit→Frm→a03→Option R3)→Option R3)(a:Option Int)(F:Frm)(H:a03):Option R3:=
 match gcD m0 keep F H with
 |some (F1,H1)=>match f2m ks aC a F1 H1 it with
  |some H2=>body F1 H2 λe F' H'=>some (e,F',H')
  |none=>none
 |none=>none
def a4g(m0 it:Nat)(keep:List Nat)(ks:List Int)(body:Frm→a03→(AExit→Frm→a03→Option R3)→Option R3):List Int→List Int→Frm→a03→Option R3
 |aC,[],F,H=>match b0p m0 it keep ks aC body none F H with
  |some (.normal,_,_)=>none
  |some (e,F',H')=>some (e,F',dropIt F' H' it)
  |none=>none
 |aC,i::o,F,H=>match b0p m0 it keep ks aC body (some i) F H with
  |some (.normal,F',H')=>a4g m0 it keep ks body (aC++[i]) o F' H'
  |_=>none
def e2q(m0 it:Nat)(keep:List Nat)(F:Frm)(H:a03):Option (List Int):=match gcD m0 keep F H with
 |some (F1,H1)=>match a34 F1 it with
  |.ptr b 0 0=>match a01 H1 b with
   |some (.miter ks [] _)=>some ks
   |_=>none
  |_=>none
 |none=>none
def c18(x:Int):List Int→List (List Int)
 | []=>[[x]]
 |y::l=>(x::y::l)::(c18 x l).map (y :: ·)
def a9q:List Int→List (List Int)
 | []=>[[]]
 |x::l=>(a9q l).flatMap (c18 x)
def e2v:AExit→AExit→Bool
 |.normal,.normal=>true
 |.ret,.ret=>true
 |.exit a,.exit b=>Nat.beq a b
 |_,_=>false
def c2i:a03→a03→Bool
 | [],[]=>true
 |a::H,b::J=>b2x a b&&c2i H J
 |_,_=>false
def c90(x:Option R3)(r:R3):Bool:=match x with
 |some (e,F,H)=>e2v e r.1&&(c0c F r.2.1&&c2i H r.2.2)
 |none=>false
def c32(m0 it:Nat)(keep:List Nat){R:Type}(body:Frm→a03→(AExit→Frm→a03→Option R3)→Option R3)(F:Frm)(H:a03)(k:AExit→Frm→a03→Option R):Option R:=
 match e2q m0 it keep F H with
 |some ks=>match(a9q ks).map λo=>a4g m0 it keep ks body [] o F H with
  |some r::rs=>bif rs.all (λx=>c90 x r)then k r.1 r.2.1 r.2.2 else none
  |_=>none
 |none=>none
def e4l(keep:List Nat):Bool:=keep.any λs=>Nat.beq s 1000000
def f5w(m:Nat)(H:a03)(v:AV):AV:=match a4j m true (a54 (a01 H) m 12) v with
 |some v'=>v'
 |none=>.junk
def d64(m:Nat)(H:a03)(F:Frm):Frm:=F.map λx=>(x.1,f5w m H x.2)
def d45(m:Nat)(H:a03):a03:=(H.take m).map (Option.map (a0t (a1z m)))
def yOf:List Nat→Option Nat
 | []=>none
 |s::r=>bif Nat.ble 3000000 s then some (s-3000000)else yOf r
def rfs(N f:Nat):Nat→Code→List (Nat×RInfo)
 |cur,.rangeFunc _ ps asg body=>[(cur,⟨N,ps.toList,asg,body,f⟩)]
 |cur,.seq a b=>rfs N f cur a++rfs N f cur b
 |cur,.cond _ a b=>rfs N f cur a++rfs N f cur b
 |_,.block id b=>rfs N f id b
 |cur,.loop b=>rfs N f cur b
 |cur,.scope b=>rfs N f cur b
 |_,_=>[]
def b67(cur:Nat):List (Nat×RInfo)→Option RInfo
 | []=>none
 |(c,ri)::r=>bif Nat.beq c cur then some ri else b67 cur r
theorem a7p{N f:Nat}:∀(c:Code) (cur:Nat),b7s c=true→rfs N f cur c=[]
 |.rangeFunc _ _ _ _,cur,h=>by simp[b7s]at h
 |.seq a b,cur,h=>by simp only[b7s,d14]at h;simp[rfs,a7p a cur h.1,a7p b cur h.2]
 |.cond _ a b,cur,h=>by simp only[b7s,d14]at h;simp[rfs,a7p a cur h.1,a7p b cur h.2]
 |.block id b,cur,h=>by simp only[rfs];exact a7p b id h
 |.loop b,cur,h=>by simp only[rfs];exact a7p b cur h
 |.scope b,cur,h=>by simp only[rfs];exact a7p b cur h
 |.skip,_,_=>rfl
 |.label _,_,_=>rfl
 |.region _ _ _,_,_=>rfl
 |.exit _,_,_=>rfl
 |.ret,_,_=>rfl
 |.goto _,_,_=>rfl
 |.refuse _,_,_=>rfl
def RFOk(E:Env)(f N:Nat)(keep:Nat→List Nat)(ro:Option Nat)(cur:Nat)(c:Code):Prop:=(ro.isSome=true→b7s c=true)∧∀x∈rfs N f cur c,∃y,yOf (keep x.1)=some y∧E.G.rnd y=some x.2
section
variable {E:Env}{f N:Nat}{keep:Nat→List Nat}{ro:Option Nat}{cur:Nat}{a b:Code}
theorem RFOk.seq1(h:RFOk E f N keep ro cur (.seq a b)):RFOk E f N keep ro cur a:=⟨λhr=>by have:=h.1 hr;simp only[b7s,d14]at this;exact this.1,λx hx=>h.2 x (by simp[rfs,hx])⟩
theorem RFOk.seq2(h:RFOk E f N keep ro cur (.seq a b)):RFOk E f N keep ro cur b:=⟨λhr=>by have:=h.1 hr;simp only[b7s,d14]at this;exact this.2,λx hx=>h.2 x (by simp[rfs,hx])⟩
theorem RFOk.cond1{c:Operand}(h:RFOk E f N keep ro cur (.cond c a b)):RFOk E f N keep ro cur a:=⟨λhr=>by have:=h.1 hr;simp only[b7s,d14]at this;exact this.1,λx hx=>h.2 x (by simp[rfs,hx])⟩
theorem RFOk.cond2{c:Operand}(h:RFOk E f N keep ro cur (.cond c a b)):RFOk E f N keep ro cur b:=⟨λhr=>by have:=h.1 hr;simp only[b7s,d14]at this;exact this.2,λx hx=>h.2 x (by simp[rfs,hx])⟩
theorem RFOk.block{id:Nat}(h:RFOk E f N keep ro cur (.block id b)):RFOk E f N keep ro id b:=⟨h.1,h.2⟩
theorem RFOk.loop(h:RFOk E f N keep ro cur (.loop b)):RFOk E f N keep ro cur b:=⟨h.1,h.2⟩
theorem RFOk.scope(h:RFOk E f N keep ro cur (.scope b)):RFOk E f N keep ro cur b:=⟨h.1,h.2⟩
end
def e21(H:a03)(b:Nat)(old new:YSt):Option a03:=match a01 H b with
 |some (.yloop y F st)=>bif decide (st=old)then some (H.set b (some (.yloop y F new)))else none
 |_=>none
def f0j(H:a03)(b:Nat):Option YSt:=match a01 H b with
 |some (.yloop _ _ st)=>some st
 |_=>none
def a4k(E:Env)(m0 N:Nat)(keep:Nat→List Nat)(call:FuncId→List AV→a03→Option (AV×a03))(lf:Nat) :
 Nat→Code→{R:Type}→Frm→a03→(AExit→Frm→a03→Option R)→Option R
 |_,.skip,_,F,H,k=>k .normal F H
 |_,.label _,_,F,H,k=>k .normal F H
 |_,.region _ al ag,_,F,H,k=>match d0z al.toList with
  |none=>a2z E ag N call al.toList al.toList [] F H λF' H'=>k .normal F' H'
  |some (it,nx,af)=>bif ag || !Nat.blt nx N then none else match c0t F H it with
   |some (v,H')=>a2z E false N call al.toList af [⟨[],[]⟩] (a4i F (some nx) v) H' λF' H'=>k .normal F' H'
   |none=>none
 |cur,.seq a b,_,F,H,k=>a4k E m0 N keep call lf cur a F H λe F' H'=>match e with
  |.normal=>a4k E m0 N keep call lf cur b F' H' k
  |e=>k e F' H'
 |cur,.cond c x y,_,F,H,k=>match opv E F c with
  |.bool t=>bif t then a4k E m0 N keep call lf cur x F H k else a4k E m0 N keep call lf cur y F H k
  |_=>none
 |_,.block id b,_,F,H,k=>a4k E m0 N keep call lf id b F H λe F' H'=>match e with
  |.exit id'=>bif id'==id then k .normal F' H' else k (.exit id') F' H'
  |e=>k e F' H'
 |cur,.loop b,_,F,H,k=>match b0q b with
  |none=>b4o m0 (keep cur) (λF H k=>a4k E m0 N keep call lf cur b F H k) lf F H λe F' H'=>bif e4l (keep cur)then k e (d64 m0 H' F') (d45 m0 H')else k e F' H'
  |some it=>c32 m0 it (keep cur) (λF H k=>a4k E m0 N keep call lf cur b F H k) F H k
 |cur,.rangeFunc f _ _ _,_,F,H,k=>match opv E F f,yOf (keep cur)with
  |.func (.func g) fs cs,some y=>bif (E.fn g).isSome && !(E.ext g)then
   match a3j (call g) (fs++[.yfn H.length]++cs) (H++[some (.yloop y (a2c (keep cur) F) .ready)])with
   |some (_,H2,_)=>match f0j H2 H.length with
    |some .ready=>k .normal F (H2.set H.length none)
    |some (.done none)=>k .ret F (H2.set H.length none)
    |some (.done (some id))=>k (.exit id) F (H2.set H.length none)
    |_=>none
   |none=>none
   else none
  |_,_=>none
 |cur,.scope b,_,F,H,k=>a4k E m0 N keep call lf cur b F H k
 |_,.exit id,_,F,H,k=>k (.exit id) F H
 |_,.ret,_,F,H,k=>k .ret F H
 |_,_,_,_,_,_=>none
/-! ### functions -/
def a1h(E:Env)(F:Frm)(H:a03):List ResultVar→Option (List AV)
 | []=>some []
 |.tmp t::r=>match a1h E F H r with
  |some vs=>some (a34 F t::vs)
  |none=>none
 |.cell a t::r=>match a7l E (a01 H) t (a34 F a),a1h E F H r with
  |some v,some vs=>some (v::vs)
  |_,_=>none
def a5q:List AV→AV
 | [v]=>v
 |vs=>.tuple vs
def a5u:Nat→List AV→Frm
 |_,[]=>[]
 |i,v::vs=>(i,v)::a5u (i+1) vs
def a56(h:FHeap)(b:Nat):FHeap:=λx=>bif Nat.beq x b then none else h x
def e73(m:Nat)(v:AV)(H:a03):Option (AV×a03):=match v with
 |.ptr b i o=>bif Nat.ble m b then(match a01 H b with
  |some (.row k aa)=>match c65 m (a54 (a56 (a01 H) b) m 12) aa with
   |some cE=>some (.ptr m i o,(H.take m).map (Option.map (a0t (a1z m)))++[some (.row k cE)])
   |none=>none
  |_=>none)else none
 |.slice b off len cap=>some (.slice b off len cap,H)
 |.agg cs=>some (.agg cs,H)
 |.map b=>some (.map b,H)
 |.func f fs cs=>some (.func f fs cs,H)
 |.nilslice=>some (.nilslice,(H.take m).map (Option.map (a0t (a1z m))))
 |_=>none
def a1f(thaw:Bool)(m:Nat)(v:AV)(H:a03):Option (AV×a03):=
 bif thaw then(bif Nat.beq m 0 then e73 m v H else some (v,H))else match a4j m true (a54 (a01 H) m 12) v with
  |some v'=>some (v',(H.take m).map (Option.map (a0t (a1z m))))
  |none=>some (v,H)
def c58:Frm→List Nat→List AV→Frm
 |F,t::ts,v::vs=>c58 (a4i F (some t) v) ts vs
 |F,_,_=>F
def b0c(E:Env)(call:FuncId→List AV→a03→Option (AV×a03))(lf:Nat)(args:List AV)(H:a03):Option (AV×a03):=match args with
 |.yfn b::vs=>match a01 H b with
  |some (.yloop y F .ready)=>match E.G.rnd y with
   |some ri=>bif Nat.beq vs.length ri.ps.length&&ri.ps.all (Nat.blt · ri.N)then
    a4k E H.length ri.N (E.keep ri.fid) call lf 0 ri.asg (c58 F ri.ps vs) H λe F' H'=>match e with
     |.normal=>match e21 H' b .ready .busy with
      |some H1=>a4k E H.length ri.N (E.keep ri.fid) call lf 0 ri.body F' H1 λe _ H2=>match e with
       |.normal=>(e21 H2 b .busy .ready).map (.bool true,·)
       |.ret=>(e21 H2 b .busy (.done none)).map (.bool false,·)
       |.exit id=>(e21 H2 b .busy (.done (some id))).map (.bool false,·)
      |none=>none
     |_=>none
    else none
   |none=>none
  |_=>none
 |_=>none
end Go.Ax
/- AxNow: what e4b at a55 point of a function's run, against its entry. -/
namespace Go.Ax
structure Entry where
 I:Nat→Prop
 K:Nat→Prop
 ρ:PMap
 m:Nat
 w:World
def Marks(e:Entry)(I:Nat→Prop)(w:World)(ds:List Deferred):Prop:=∃rs:List Nat,ds=rs.map (λr=>(⟨.collected r,#[]⟩:Deferred))∧rs.Nodup∧∀r∈rs,I r∧e.w.heap.size≤r∧w.heap[r]?=some (.deferred (some []))
theorem Marks.nil{e:Entry}{I:Nat→Prop}{w:World}:Marks e I w []:=⟨[],rfl,List.nodup_nil,λ_ h=>(by cases h)⟩
theorem Marks.mono{e:Entry}{I I':Nat→Prop}{w w':World}{ds:List Deferred}(h:Marks e I w ds)(hI:∀c,I c→I' c)(hw:∀c,I c→w'.heap[c]?=w.heap[c]?):Marks e I' w' ds:=by obtain⟨rs,h1,h2,h3⟩:=h;exact⟨rs,h1,h2,λr hr=>⟨hI r (h3 r hr).1,(h3 r hr).2.1,by rw[hw r (h3 r hr).1];exact(h3 r hr).2.2⟩⟩
theorem a3q{a:Act}{d:Option Nat}{c:Value}:(a.put d c).defers=a.defers:=by cases d<;>rfl
def NRel(ρ:PMap)(n:Nat):Prop:=∀b,n≤b→ρ b=none
structure Now(E:Env)(e:Entry)(N:Nat)(F:Frm)(H:a03)(I:Nat→Prop)(ρ:PMap)(a:Act)(w:World):Prop where
 imm:∀c,e.I c→I c
 map:∀b,b<e.m→ρ b=e.ρ b
 ext:Ext e.I e.K e.w w
 rel:HRel E.G I e.K ρ (a01 H) w
 nrel:NRel ρ H.length
 frm:FRel I w ρ N F a.tmps
 low:e.m≤H.length
 marks:Marks e I w a.defers
section
variable {E:Env}
theorem b9w(H:a03):a01 H H.length=none:=by simp[a01]
theorem c85(H:a03)(e:Eff):∀b o,a01 (b1i H e) b=some o→((a01 H).eff H.length e) b=some o:=by
 intro b o hb;cases e with
 |none=>exact hb
 |new o1=>
  simp only[b1i,a01,FHeap.eff,FHeap.set]at hb⊢;by_cases h:b=H.length
  ·subst h;simp at hb;simp[hb]
  ·rw[f4n h];rcases g04 b H.length with h1|h1
   ·rwa [f6d h1]at hb
   ·rw[f6h (by simp;omega)]at hb;simp at hb
 |set b1 o1=>
  simp only[b1i,a01,FHeap.eff,FHeap.set]at hb⊢;rw[f6k]at hb;by_cases h:b=b1
  ·subst h;rw[f6e rfl]at hb⊢;split at hb
   ·simpa using hb
   ·simp at hb
  ·rw[f4n (λe=>h e.symm)]at hb;rw[f4n h];exact hb
 |kill b1 o1=>
  simp only[b1i,a01,FHeap.eff,FHeap.set]at hb⊢;by_cases h:b=H.length
  ·subst h;rw[f8k (by simp)]at hb;simp at hb;simp[hb]
  ·rw[f4n h];rcases g04 b H.length with h1|h1
   ·rw[f6d (by simpa using h1),f6k]at hb;by_cases h2:b=b1
    ·subst h2;rw[f6e rfl]at hb;split at hb<;>simp at hb
    ·rw[f4n (λe=>h2 e.symm)]at hb;rw[f4n h2];exact hb
   ·rw[f6h (by simp;omega)]at hb;simp at hb
theorem b1b(H:a03)(e:Eff):(b1i H e).length=if e.fresh then H.length+1 else H.length:=by cases e<;>simp[b1i,Eff.fresh]
theorem NRel.moves{ρ ρ':PMap}{H:a03}{e:Eff}(hn:NRel ρ H.length)(hm:Moves ρ ρ' H.length e):NRel ρ' (b1i H e).length:=by
 intro b hb;rw[b1b]at hb;cases hf:e.fresh with
 |false=>rw[hf]at hb;rw[hm.2 hf];exact hn b (by simpa using hb)
 |true=>
  rw[hf]at hb;have hb:H.length+1≤b:=by simpa using hb
  rw[hm.1 b (by omega)];exact hn b (by omega)
theorem Now.op(ok:EnvOk E){e:Entry}{N:Nat}{F:Frm}{H:a03}{I:Nat→Prop}{ρ:PMap}{a:Act}{w:World}(h:Now E e N F H I ρ a w){o:Oper}{v:AV}{eff:Eff}
 (ha:aop E H.length (a01 H) o.op (opv E F)=some (v,eff))(hd:a8f N o.dst=true) :
 ∃x w' c ρ',(execOp a.eval o).run E.P w = .ok x w'∧(x = .value c∨(x = .skip∧c=undef))∧Now E e N (a4i F o.dst v) (b1i H eff) I ρ' (a.put o.dst c) w':=by
 obtain⟨x,w',c,ρ',ae,hx,step,hv,hm⟩:=e1r ok h.rel (b9w H) (h.nrel _ (f6l _)) ha (b5x h.rel h.frm);refine⟨x,w',c,ρ',ae,hx,?_⟩;have fY:∀s,o.dst=some s→s<N:=by intro s hs;rw[hs]at hd;simpa[a8f,f8f]using hd
 refine⟨h.imm,λb hb=>?_,h.ext.trans h.imm step.ext,step.rel.fewer (c85 H eff),h.nrel.moves hm,?_,?_,?_⟩
 ·rw[hm.1 b (by have:=h.low;omega)];exact h.map b hb
 ·exact(FRel.mono h.frm (λv c hv=>step.vrel hv)).set fY hv
 ·rw[b1b];have:=h.low;split<;>omega
 ·rw[a3q];exact h.marks.mono (λ_ h=>h) (λc hc=>step.ext.keep c (.inl hc))
theorem Now.refine{e:Entry}{N:Nat}{F:Frm}{H:a03}{I:Nat→Prop}{ρ:PMap}{a:Act}{w:World}(h:Now E e N F H I ρ a w){d:Nat}{v:AV}(hv:VRel I w ρ v (a.tmps.getD d undef)) :
 Now E e N (a4i F (some d) v) H I ρ a w:=
 { h with frm:=⟨h.frm.1,λs=>by
  rw[b01];split
  ·rename_i hs;subst hs;exact hv
  ·exact h.frm.2 s⟩ }
theorem Now.skip{e:Entry}{N:Nat}{F:Frm}{H:a03}{I:Nat→Prop}{ρ:PMap}{a:Act}{w:World}(h:Now E e N F H I ρ a w){o:Oper}(hd:a8f N o.dst=true) :
 Now E e N (a4i F o.dst (.tuple [])) H I ρ (a.put o.dst undef) w:=
 { h with
  frm:=h.frm.set (by intro s hs;rw[hs]at hd;simpa[a8f,f8f]using hd) (by simp only[VRel,undef];exact⟨#[],rfl,by simp[VRels]⟩)
  marks:=by rw[a3q];exact h.marks }
end
end Go.Ax
/- AxCall: a call on the blocks that its arguments a3g, and back. -/
namespace Go.Ax
structure Ret(E:Env)(I K:Nat→Prop)(ρ:PMap)(m:Nat)(w:World)(I':Nat→Prop)(ρ':PMap)(H':a03)(w':World):Prop where
 imm:∀c,I c→I' c
 map:∀b,b<m→ρ' b=ρ b
 ext:Ext I K w w'
 rel:HRel E.G I' K ρ' (a01 H') w'
 nrel:NRel ρ' H'.length
 low:m≤H'.length
abbrev g0g:=List Value→World→(Ending→World→Prop)→Prop
def XR(E:Env):g0g:=λap w R=>∃l vs fn tmps asg body,ap = .func (.yield l) #[] #[]::vs∧(Instr.yield l vs.toArray).run E.P w = .ok (.round l fn tmps asg body) w∧RoundIn Fence.wide 0 E.P l fn tmps asg body w R
def XOf(E:Env)(g:FuncId):g0g:=if g=yId then XR E else λap w R=>Calls E.P g ap.toArray w R
theorem XOf.mono{E:Env}{g:FuncId}{ap:List Value}{w:World}{R R':Ending→World→Prop}(h:XOf E g ap w R)(hr:∀e w',R e w'→R' e w'):XOf E g ap w R':=by
 unfold XOf at h⊢;split at h
 ·rename_i hg;rw[f6e hg];obtain⟨l,vs,fn,tmps,asg,body,h1,h2,h3⟩:=h;exact⟨l,vs,fn,tmps,asg,body,h1,h2,h3.mono hr⟩
 ·rename_i hg;rw[f4n hg];exact Calls.mono h hr
theorem b4i{E:Env}{g:FuncId}(hg:g≠yId):XOf E g=λap w R=>Calls E.P g ap.toArray w R:=f4n hg
theorem e6g{E:Env}:XOf E yId=XR E:=f6e rfl
theorem c9w{E:Env}(ok:EnvOk E){g:FuncId}{i:FInfo}(h:E.fn g=some i):g≠yId:=λe=>by rw[e,ok.yid]at h;cases h
def b1g(E:Env)(f:FuncId)(run:List AV→a03→Option (AV×a03)):Prop:=
 ∀args H v H',run args H=some (v,H')→∀(I K:Nat→Prop) (ρ:PMap) (w:World) (ap:List Value),HRel E.G I K ρ (a01 H) w→NRel ρ H.length→VRels I w ρ args ap→
  XOf E f ap w λen w'=>∃c I' ρ',en = .returned c∧Ret E I K ρ H.length w I' ρ' H' w'∧VRel I' w' ρ' v c
def b7q(K:Nat→Prop)(ρ:PMap)(hp:FHeap)(σ:List Nat):Nat→Prop:=λc=>K c∨∃b o m,hp b=some o∧ρ b=some m∧m.blk=c∧b∉σ
theorem a2t{σ:List Nat}{b j:Nat}(h:σ.idxOf? b=some j):σ[j]?=some b:=by rw[List.idxOf?_eq_some_iff]at h;obtain⟨hj,hb,_⟩:=h;rw[z9e hj,hb]
theorem b3c{σ:List Nat}{b:Nat}(h:σ.idxOf? b=none):b∉σ:=by simpa[List.idxOf?_eq_none_iff]using h
theorem b0h{l:List Nat}(h:a6g l=true):l.Nodup:=by
 induction l with
 |nil=>exact List.nodup_nil
 |cons b r ih=>simp only[a6g,d14,f9y,←Bool.not_eq_true,a3i]at h;exact g0m.2 ⟨h.1,ih h.2⟩
theorem a9z{σ:List Nat}{b j:Nat}(hn:σ.Nodup)(h:σ[j]?=some b):σ.idxOf? b=some j:=by rw[List.idxOf?_eq_some_iff];obtain⟨hj,hb⟩:=c13.1 h;refine⟨hj,hb,λi hi he=>?_⟩;have:=(List.getElem_inj (h₀:=by omega) (h₁:=hj) hn).1 (he.trans hb.symm);omega
section
variable {E:Env}{I K:Nat→Prop}{ρ:PMap}{hp:FHeap}{w:World}{σ:List Nat}
def a70(hp:FHeap)(σ:List Nat):a03:=σ.map λb=>(hp b).map (a0t (b0m σ))
theorem b8b(j:Nat):a01 (a70 hp σ) j=(σ[j]?).bind λb=>(hp b).map (a0t (b0m σ)):=by simp only[a01,a70,f4q];cases σ[j]?<;>simp
theorem d2z(r:HRel E.G I K ρ hp w)(hn:σ.Nodup):HRel E.G I (b7q K ρ hp σ) (λj=>(σ[j]?).bind ρ) (a01 (a70 hp σ)) w:=by
 have r1:HRel E.G I K (λj=>(σ[j]?).bind ρ) (a01 (a70 hp σ)) w:=by
  refine r.rename (π:=b0m σ) ?_ ?_ ?_
  ·intro b j m hj hb;have:=a2t hj;simp only[this,g08,hb]
  ·intro j o' ho;rw[b8b]at ho;cases hb:σ[j]? with
   |none=>rw[hb]at ho;simp at ho
   |some b=>
    rw[hb]at ho;simp only[g08]at ho;cases jh:hp b with
    |none=>rw[jh]at ho;simp at ho
    |some o=>rw[jh]at ho;simp only[f5x,Option.some.injEq]at ho;exact⟨b,o,jh,a9z hn hb,ho.symm⟩
  ·intro j m hj;cases hb:σ[j]? with
   |none=>rw[hb]at hj;simp at hj
   |some b=>rw[hb]at hj;exact r.dom b m hj
 refine⟨?_,r1.inj,r1.dom,r1.imm,?_,?_,r1.glob⟩
 ·intro j o' ho;obtain⟨m,h1,h2,h3,h4⟩:=r1.live j o' ho;refine⟨m,h1,h2,?_,h4⟩
  rintro(hk|⟨b,o,m',hb,bA,he,lu⟩)
  ·exact h3 hk
  ·rw[b8b]at ho;cases hσ:σ[j]? with
   |none=>rw[hσ]at ho;simp at ho
   |some b'=>
    rw[hσ]at ho h1;simp only[g08]at ho h1;have hl:(hp b').isSome:=by cases h:hp b' with|none=>rw[h]at ho;simp at ho|some _=>rfl
    have:=r.inj b b' m' m (by simp[hb]) hl bA h1 he;subst this;exact lu (c11 hσ)
 ·rintro c (hk|⟨b,o,m',hb,bA,rfl,_⟩)
  ·exact r.kept c hk
  ·exact r.dom b m' bA
 ·rintro c hc (hk|⟨b,o,m',hb,bA,rfl,_⟩)
  ·exact r.apart c hc hk
  ·obtain⟨ui,h1,h2,_⟩:=r.live b o hb;obtain rfl:m'=ui:=z9o (bA.symm.trans h1);exact h2 hc
theorem c1r{g:FuncId}{run:List AV→a03→Option (AV×a03)}(ae:b1g E g run){args:List AV}{ap:List Value}{v1:AV}{H1:a03}
 (ak:run (args.map (ren (b0m σ))) (a70 hp σ)=some (v1,H1))(r:HRel E.G I K ρ hp w)(hn:σ.Nodup)(ha:VRels I w ρ args ap) :
 XOf E g ap w λen w'=>∃c I1 ρ1,en = .returned c∧Ret E I (b7q K ρ hp σ) (λj=>(σ[j]?).bind ρ) σ.length w I1 ρ1 H1 w'∧VRel I1 w' ρ1 v1 c:=by
 have h:=ae _ _ _ _ ak I (b7q K ρ hp σ) (λj=>(σ[j]?).bind ρ) w ap (d2z r hn)
  (by intro j hj;simp only[a70,f4j]at hj;simp[f6h hj])
  (by rw[←a9o];exact VRels.ren (λb j m hj hb=>by have:=a2t hj;simp only[this,g08,hb]) args ha)
 simpa[a70]using h
theorem c1t{n:Nat}{I1:Nat→Prop}{ρ1:PMap}{H1:a03}{w':World}(r:HRel E.G I K ρ hp w)(_:σ.Nodup)
 (aB:Ret E I (b7q K ρ hp σ) (λj=>(σ[j]?).bind ρ) σ.length w I1 ρ1 H1 w'){ρ2:PMap}{h2:FHeap}
 (aT:∀b m,ρ b=some m→ρ2 b=some m)(cI:∀j b m,a1w σ n j=some b→ρ1 j=some m→ρ2 b=some m)
 (mH:∀b m,ρ2 b=some m→ρ b=some m∨∃j,ρ1 j=some m)
 (hh:∀b o,h2 b=some o→(b∉σ∧hp b=some o)∨∃j o1,a1w σ n j=some b∧a01 H1 j=some o1∧o=a0t (a1w σ n) o1) :
 HRel E.G I1 K ρ2 h2 w':=by
 have bU:=aB.ext.size;have cJ:∀c,I c→w'.heap[c]?=w.heap[c]?:=λc hc=>aB.ext.keep c (.inl hc);have r1:=aB.rel;have jr:∀b o,h2 b=some o→∃m,ρ2 b=some m∧¬I1 m.blk∧¬K m.blk∧ORel E.G I1 w' ρ2 m o∧((b∉σ∧hp b=some o∧ρ b=some m)∨∃j,a1w σ n j=some b∧(a01 H1 j).isSome∧ρ1 j=some m):=by
  intro b o hb;rcases hh b o hb with ⟨lu,jh⟩|⟨j,o1,hj,dX,rfl⟩
  ·obtain⟨m,h1,h3,h4,h5⟩:=r.live b o jh;have s9:b7q K ρ hp σ m.blk:=.inr ⟨b,o,m,jh,h1,rfl,lu⟩;refine⟨m,aT b m h1,λhc=>r1.apart _ hc s9,h4,?_,.inl ⟨lu,jh,h1⟩⟩;exact ORel.mono o aB.imm cJ aT (aB.ext.keep _ (.inr s9)) h5
  ·obtain⟨m,h1,h3,h4,h5⟩:=r1.live j o1 dX;refine⟨m,cI j b m hj h1,h3,λhk=>h4 (.inl hk),ORel.ren (λj b m hj h=>cI j b m hj h) o1 h5,.inr ⟨j,hj,by simp[dX],h1⟩⟩
 refine⟨?_,?_,?_,r1.imm,?_,?_,r1.glob⟩
 ·intro b o hb;obtain⟨m,h1,h3,h4,h5,_⟩:=jr b o hb;exact⟨m,h1,h3,h4,h5⟩
 ·intro b b' m m' hb bq hm bA he;obtain⟨o,ho⟩:=f4k.1 hb;obtain⟨o',d8⟩:=f4k.1 bq;obtain⟨q,hq,_,_,_,hc⟩:=jr b o ho;obtain⟨q',iX,_,_,_,pN⟩:=jr b' o' d8;rw[hm]at hq;cases hq;rw[bA]at iX;cases iX;rcases hc with ⟨lu,jh,h1⟩|⟨j,hj,hl,h1⟩<;>rcases pN with ⟨qN,oq,db⟩|⟨j',lG,pG,db⟩
  ·exact r.inj b b' m m' (by simp[jh]) (by simp[oq]) h1 db he
  ·exfalso;obtain⟨o1,dX⟩:=f4k.1 pG;obtain⟨q,hq,_,hk,_⟩:=r1.live j' o1 dX;rw[db]at hq;cases hq;exact hk (.inr ⟨b,o,m,jh,h1,he,lu⟩)
  ·exfalso;obtain⟨o1,dX⟩:=f4k.1 hl;obtain⟨q,hq,_,hk,_⟩:=r1.live j o1 dX;rw[h1]at hq;cases hq;exact hk (.inr ⟨b',o',m',oq,db,he.symm,qN⟩)
  ·have:=r1.inj j j' m m' hl pG h1 db he;subst this;rw[hj]at lG;exact z9o lG
 ·intro b m hb;rcases mH b m hb with h|⟨j,h⟩
  ·have:=r.dom b m h;omega
  ·exact r1.dom j m h
 ·intro c hc;have:=r.kept c hc;omega
 ·intro c hc hk;exact r1.apart c hc (.inl hk)
end
end Go.Ax
/- AxCall2: a call in sequence; the concrete step of a call. -/
namespace Go.Ax
section
variable {E:Env}{I K:Nat→Prop}{ρ:PMap}{w:World}
theorem a8q(σ:List Nat)(n:Nat)(H1:a03):∀(b0:Nat) (H:a03) (i:Nat),
 (a1d σ n H1 b0 H)[i]?=(H[i]?).map λo=>match σ.idxOf? (b0+i)with
  |some j=>(a01 H1 j).map (a0t (a1w σ n))
  |none=>o
 |b0,[],i=>by simp[a1d]
 |b0,o::r,0=>by simp[a1d]<;>rfl
 |b0,o::r,i+1=>by simp only[a1d,f8h];rw[a8q σ n H1 (b0+1) r i,show b0+1+i=b0+(i+1) by omega]
theorem a1b(σ:List Nat)(n:Nat)(H1:a03):∀(b0:Nat) (H:a03),(a1d σ n H1 b0 H).length=H.length
 |b0,[]=>by simp[a1d]
 |b0,o::r=>by simp[a1d,a1b σ n H1 (b0+1) r]
theorem b3r{g:FuncId}{run:List AV→a03→Option (AV×a03)}(ae:b1g E g run){args:List AV}{ap:List Value}{H H':a03}{v:AV}{σ:List Nat}
 (ak:a3j run args H=some (v,H',σ))(r:HRel E.G I K ρ (a01 H) w)(hn:NRel ρ H.length)(ha:VRels I w ρ args ap) :
 XOf E g ap w λen w'=>∃c I' ρ',en = .returned c∧Ret E I K ρ H.length w I' ρ' H' w'∧VRel I' w' ρ' v c:=by
 unfold a3j at ak;simp only at ak;generalize hσ:a3g H a6f (a0l args) []=σ' at ak;rw[cond_eq_ite]at ak;split at ak
 case isFalse=>cases ak
 rename_i hc;simp only[d14,f8c,f8f]at hc;obtain⟨bQ,ah⟩:=hc;have bQ:=b0h bQ;split at ak
 case h_2=>cases ak
 rename_i v1 H1 hr;simp only[Option.some.injEq,Prod.mk.injEq]at ak;obtain⟨rfl,rfl,rfl⟩:=ak;have jG:run (args.map (ren (b0m σ'))) (a70 (a01 H) σ')=some (v1,H1):=hr;refine XOf.mono (c1r ae jG r bQ ha) ?_
 rintro en w' ⟨c,I1,ρ1,rfl,aB,hv⟩
 have cI:∀j b m,a1w σ' H.length j=some b→ρ1 j=some m→(if b<H.length then ρ b else ρ1 (σ'.length+(b-H.length)))=some m:=by
  intro j b m hj hm;simp only[a1w]at hj;rw[cond_eq_ite]at hj;split at hj
  ·rename_i aS;have aS:j<σ'.length:=by simpa[f8f]using aS
   have hb:=ah b (c11 hj);rw[f6e hb];have:=aB.map j aS;rw[hm,hj]at this;exact this.symm
  ·rename_i aS;have aS:σ'.length≤j:=by simpa[f8f]using aS
   cases hj;rw[f4n (by omega),show σ'.length+(H.length+(j-σ'.length)-H.length)=j by omega];exact hm
 have aT:∀b m,ρ b=some m→(if b<H.length then ρ b else ρ1 (σ'.length+(b-H.length)))=some m:=by
  intro b m hb;have:b<H.length:=by
   rcases g04 b H.length with h|h
   ·exact h
   ·rw[hn b h]at hb;cases hb
  rw[f6e this];exact hb
 refine⟨c,I1,λb=>if b<H.length then ρ b else ρ1 (σ'.length+(b-H.length)),rfl,⟨aB.imm,λb hb=>by rw[f6e hb],aB.ext.keepLess (λc hc=>.inl hc),?_,?_,?_⟩,?_⟩
 ·refine c1t r bQ aB aT cI ?_ ?_
  ·intro b m hb;split at hb
   ·exact .inl hb
   ·exact .inr ⟨_,hb⟩
  ·intro b o hb;simp only[a01]at hb;rcases g04 b H.length with dZ|dZ
   ·rw[f6d (by rw[a1b];exact dZ),a8q]at hb;simp only[f8j]at hb;rw[z9e dZ]at hb;simp only[f5x,g0o]at hb;split at hb
    ·rename_i j hj;right;have hσj:=a2t hj;have aS:=(c13.1 hσj).1;obtain⟨o1,dX,rfl⟩:=a08 hb;refine⟨j,o1,?_,dX,rfl⟩;simp only[a1w];rw[cond_eq_ite,f6e (by simpa[f8f]using aS)];exact hσj
    ·rename_i hj;left;exact⟨b3c hj,by simp only[a01];rw[z9e dZ];simpa using hb⟩
   ·right;rw[f8k (by rw[a1b];exact dZ),a1b,f4q,g1s]at hb;refine⟨σ'.length+(b-H.length),?_⟩;cases hx:H1[σ'.length+(b-H.length)]? with
    |none=>rw[hx]at hb;simp at hb
    |some ob=>
     rw[hx]at hb;simp only[f5x,g0o]at hb;obtain⟨o1,rfl,rfl⟩:=a08 hb;refine⟨o1,?_,by simp[a01,hx],rfl⟩;simp only[a1w];rw[cond_eq_ite,f4n (by simp[f8f])]
     congr 1;omega
 ·intro b hb;simp only[f5z,a1b,f4j,List.length_drop]at hb;have cN:=aB.low;dsimp only;rw[f4n (by omega)];exact aB.nrel _ (by omega)
 ·simp[a1b]
 ·exact VRel.ren (λj b m hj hm=>cI j b m hj hm) v1 hv
theorem b27{a:Act}{o:Oper}{f:Operand}{args:Array Operand}{pm:Array TypeId}(ho:o.op = .call ⟨.value f,args,pm⟩){g:FuncId}{fs cs:Array Value}(hf:a.eval f = .func (.func g) fs cs) :
 (execOp a.eval o).run E.P w=(callFunc g (fs++args.map a.eval++cs)).run E.P w:=by
 obtain⟨dst,op,type,pos,after,guard⟩:=o;simp only at ho;subst ho;simp[execOp,resolve,hf,Deferred.ofValue,invoke]
theorem a4r(ok:EnvOk E){g:FuncId}(hg:(E.fn g).isSome=true)(args:Array Value):(callFunc g args).run E.P w = .ok (.enter g args) w:=by
 obtain⟨i,hi⟩:=f4k.1 hg;obtain⟨fn,h1,h2,_,_,h5⟩:=ok.fn g i hi
 have h6:¬fn.name = "runtime.NumGoroutine" := by simpa using h5
 simp[callFunc,h1,h2,h6]
theorem b4f(ok:EnvOk E){g:FuncId}(hg:E.ext g=true)(cj:(E.fn g).isSome=false){args:List AV}{ap:List Value}{v:AV}(hv:f7h args=some v)(ha:VRels I w ρ args ap) :
 ∃c,(callFunc g ap.toArray).run E.P w = .ok (.value c) w∧VRel I w ρ v c:=by
 obtain⟨fn,h1,h2,h3,h4,h5⟩:=ok.ext g hg cj;unfold f7h at hv;split at hv
 case h_2=>cases hv
 rename_i s cc;cases hv;simp only[VRels]at ha;obtain⟨c1,_,rfl,hs,c2,_,rfl,hb,rfl⟩:=ha;simp only[VRel]at hs hb;obtain⟨t,rfl,ht⟩:=hs;subst hb;refine⟨.int .i64 (Lib.indexByte s cc.toNat.toUInt8),?_,by simp[VRel]⟩;have:=Lib.run_indexByteString (P:=E.P) t cc w;rw[ht]at this
 have h6:¬fn.name = "runtime.NumGoroutine" := by simpa using h3
 simp[callFunc,h1,h2,h6,h4,h5,this]
end
end Go.Ax
/- AxWf: the walk of a function's body and that of a round's, in one. -/
namespace Go.Ax
def wf:Option Nat→Fence
 |none=>Fence.wide
 |some l=>Fence.wide.inRound l
@[simp] theorem e24(ro:Option Nat)(f:FuncId):(wf ro).fn f:=by cases ro<;>trivial
@[simp] theorem d6a(ro:Option Nat):(wf ro).round=ro:=by cases ro<;>rfl
@[simp] theorem f0k(ro:Option Nat):(wf ro).depth=none:=by cases ro<;>rfl
theorem d9l{ro:Option Nat}{n:Nat}{P:Program}{f:FuncId}{args:Array Value}{w:World}{R:Ending→World→Prop}:CallsIn (wf ro) n P f args w R↔Calls P f args w R:=by
 cases ro
 ·exact callsIn_wide
 ·exact callsIn_wide (n:=n)
theorem d6y{ro:Option Nat}{n:Nat}{P:Program}{l:Nat}{f:FuncId}{tmps:Array Value}{assign body:Code}{w:World}{R:Ending→World→Prop} :
 RoundIn (wf ro) n P l f tmps assign body w R↔RoundIn Fence.wide n P l f tmps assign body w R:=by
 cases ro<;>exact Iff.rfl
section
variable {P:Program}{ro:Option Nat}{o:Oper}{a:Act}{w:World}{K:Act→World→Prop}{Q:Exit→Act→World→Prop}
theorem a9h(hd:∀c,o.op≠ .defer c)(h:o.uponIn (wf ro) 0 P a K Q ((execOp a.eval o).run P w)):o.wpIn (wf ro) 0 P a w K Q:=⟨λf _=>e24 ro f,by rw[d6a,Oper.semAt_eq _ _ _ hd];exact h⟩
theorem b09{f:FuncId}{args:Array Value}(h:Calls P f args w fun
 |.returned v,j9=>K (a.put o.dst v) j9
 |.panicked chain,j9=>Q (.panic chain) a j9
 |.outgrown,_=>LetsOut Q):o.uponIn (wf ro) 0 P a K Q (.ok (.enter f args) w):=
 ⟨λh=>by simp at h,d9l.2 h⟩
theorem b89{l:Nat}{f:FuncId}{tmps:Array Value}{assign body:Code}(h:RoundIn Fence.wide 0 P l f tmps assign body w fun
 |.returned v,j9=>K (a.put o.dst v) j9
 |.panicked chain,j9=>Q (.panic chain) a j9
 |.outgrown,_=>LetsOut Q):o.uponIn (wf ro) 0 P a K Q (.ok (.round l f tmps assign body) w):=
 ⟨λh=>by simp at h,d6y.2 h⟩
theorem b7n{E:Env}{n:Nat}{h:FHeap}{op:Op}{v:Operand→AV}{r:AV×Eff}(ha:aop E n h op v=some r):∀c,op≠ .defer c:=by
 rintro c rfl
 simp[aop]at ha
theorem b9i{f:Operand}{args:Array Operand}{pm:Array TypeId}(ho:o.op = .call ⟨.value f,args,pm⟩){l:Nat}(hf:a.eval f = .func (.yield l) #[] #[]) :
 (execOp a.eval o).run P w=(Instr.yield l (args.map a.eval)).run P w:=by
 obtain⟨dst,op,type,pos,after,guard⟩:=o;simp only at ho;subst ho;simp[execOp,resolve,hf,Deferred.ofValue,invoke]
end
end Go.Ax
/- AxLend: lent calls: the callee sees its caller's memory as immutable, and gives new memory only, which is frozen at once. -/
namespace Go.Ax
section
variable {I I':Nat→Prop}{w:World}{ρ:PMap}
mutual
theorem VRel.noI:∀(v:AV) {c:Value},noI v=true→VRel I w ρ v c→VRel I' w ρ v c
 |.junk,c,_,h=>by simp[VRel]
 |.bool b,c,_,h=>by simpa[VRel]using h
 |.int k n,c,_,h=>by simpa[VRel]using h
 |.str s,c,_,h=>by simpa[VRel]using h
 |.nilptr,c,_,h=>by simpa[VRel]using h
 |.nilslice,c,_,h=>by simpa[VRel]using h
 |.nilmap,c,_,h=>by simpa[VRel]using h
 |.nilfunc,c,_,h=>by simpa[VRel]using h
 |.nilifc,c,_,h=>by simpa[VRel]using h
 |.ptr b i o,c,_,h=>by simpa only[VRel]using h
 |.slice b off len cap,c,_,h=>by simpa only[VRel]using h
 |.map b,c,_,h=>by simpa only[VRel]using h
 |.yfn b,c,_,h=>by simpa only[VRel]using h
 |.iptr cs,c,hn,_=>by simp[Ax.noI]at hn
 |.islice aa cap,c,hn,_=>by simp[Ax.noI]at hn
 |.imap ks vs bs bv,c,hn,_=>by simp[Ax.noI]at hn
 |.iset ks,c,hn,_=>by simp[Ax.noI]at hn
 |.func fn fs cs,c,hn,h=>by simp only[Ax.noI,d14]at hn;simp only[VRel]at h⊢;obtain⟨a,b,rfl,h1,h2⟩:=h;exact⟨a,b,rfl,VRels.noI fs hn.1 h1,VRels.noI cs hn.2 h2⟩
 |.iface t x,c,hn,h=>by simp only[Ax.noI]at hn;simp only[VRel]at h⊢;obtain⟨a,rfl,h1⟩:=h;exact⟨a,rfl,VRel.noI x hn h1⟩
 |.agg cs,c,hn,h=>by simp only[Ax.noI]at hn;simp only[VRel]at h⊢;obtain⟨a,rfl,h1⟩:=h;exact⟨a,rfl,VRels.noI cs hn h1⟩
 |.tuple cs,c,hn,h=>by simp only[Ax.noI]at hn;simp only[VRel]at h⊢;obtain⟨a,rfl,h1⟩:=h;exact⟨a,rfl,VRels.noI cs hn h1⟩
theorem VRels.noI:∀(vs:List AV) {cs:List Value},c7e vs=true→VRels I w ρ vs cs→VRels I' w ρ vs cs
 | [],cs,_,h=>by simpa[VRels]using h
 |v::vs,cs,hn,h=>by simp only[c7e,d14]at hn;simp only[VRels]at h⊢;obtain⟨c,aO,rfl,h1,h2⟩:=h;exact⟨c,aO,rfl,VRel.noI v hn.1 h1,VRels.noI vs hn.2 h2⟩
end
theorem VAt.noI:∀(vs:List AV) {b off:Nat},c7e vs=true→VAt I w ρ vs b off→VAt I' w ρ vs b off
 | [],b,off,_,h=>by simp[VAt]
 |v::vs,b,off,hn,h=>by simp only[c7e,d14]at hn;simp only[VAt]at h⊢;obtain⟨⟨c,hc,h1⟩,h2⟩:=h;exact⟨⟨c,hc,VRel.noI v hn.1 h1⟩,VAt.noI vs hn.2 h2⟩
theorem VRows.noI{k:Nat}:∀(rs:List (List AV)) {b off:Nat},rs.all c7e=true→VRows I w k ρ rs b off→VRows I' w k ρ rs b off
 | [],b,off,_,h=>by simp[VRows]
 |r::rs,b,off,hn,h=>by simp only[List.all_cons,d14]at hn;simp only[VRows]at h⊢;exact⟨h.1,VAt.noI r hn.1 h.2.1,VRows.noI rs hn.2 h.2.2⟩
theorem ORel.noI{G:GTab (List AV)}{m:Pl}(o:AObj)(hn:e15 o=true)(h:ORel G I w ρ m o):ORel G I' w ρ m o:=by
 cases o with
 |row k aa=>exact⟨h.1,h.2.1,h.2.2.1,VRows.noI aa hn h.2.2.2⟩
 |map ks vs bs bv=>simp only[e15,d14]at hn;obtain⟨es,h1,h2,h3,h4⟩:=h;exact⟨es,h1,VRels.noI ks hn.1 h2,VRels.noI vs hn.2 h3,h4⟩
 |siter s pos=>exact h
 |uset ks=>exact h
 |miter ks b9 bT=>simp[e15]at hn
 |yloop y F st=>simp[e15]at hn
end
theorem a93{H:a03}{b:Nat}{o:AObj}(h:a7w H b=some o):a01 H b=some o∧e15 o=true:=by
 unfold a7w at h;split at h
 case h_2=>cases h
 rename_i o' ho;rw[cond_eq_ite]at h;split at h
 case isFalse=>cases h
 rename_i hn;cases h;exact⟨ho,hn⟩
section
variable {E:Env}{I K:Nat→Prop}{ρ:PMap}{h hl:FHeap}{w:World}
theorem c3a{g:FuncId}{run:List AV→a03→Option (AV×a03)}(ae:b1g E g run)(aV:∀b o,hl b=some o→h b=some o)(r:HRel E.G I K ρ h w){args au:List AV}{ap:List Value}{v v':AV}{H1:a03}
 (ha:VRels I w ρ args ap)(hf:a5t 0 false (a54 hl 0 12) args=some au)(hr:run au []=some (v,H1))(hn:noI v=true)(hv:a4j 0 false (a54 (a7w H1) 0 12) v=some v') :
 XOf E g ap w λen w'=>∃c I',en = .returned c∧(∀c,I c→I' c)∧Ext I K w w'∧HRel E.G I' K ρ h w'∧VRel I' w' ρ v' c:=by
 have rl:HRel E.G I K ρ hl w:=r.fewer aV;have hI:∀c,I c→a52 I ρ hl 0 c:=λc hc=>.inl hc;have h1:=b02 hI (a8d rl 12) args hf ha;rw[a96]at h1;have tK:∀c,a52 I ρ hl 0 c→a52 I ρ h 0 c:=by
  rintro c (hc|⟨b,o,p,h0,hb,hp,he⟩)
  ·exact .inl hc
  ·exact .inr ⟨b,o,p,h0,aV b o hb,hp,he⟩
 have h2:VRels (a52 I ρ h 0) w noP au ap:=VRels.mono tK (λ_ _=>rfl) au (λ_ _ h=>h) h1;have nB:∀c,a52 I ρ h 0 c→c<w.heap.size:=by
  rintro c (hc|⟨b,o,p,_,_,hp,rfl⟩)
  ·exact r.imm c hc
  ·exact r.dom b p hp
 have qo:HRel E.G (a52 I ρ h 0) K noP (a01 []) w:=by
  refine⟨λb o hb=>by simp[a01]at hb,λb b' m m' hb=>by simp[a01]at hb,λb m hb=>by simp[noP]at hb,nB,r.kept,?_,λg cs hg=>⟨.inl (r.glob g cs hg).1,VAt.mono (λc hc=>.inl hc) (λ_ _=>rfl) cs (λ_ _ h=>h) rfl (r.glob g cs hg).2⟩⟩
  rintro c (hc|⟨b,o,p,_,hb,hp,rfl⟩)
  ·exact r.apart c hc
  ·obtain⟨q,hq,_,hk,_⟩:=r.live b o hb;rw[hp]at hq;cases hq;exact hk
 have ak:=ae au [] v H1 hr (a52 I ρ h 0) K noP w ap qo (λ_ _=>rfl) h2;refine XOf.mono ak ?_
 rintro en w' ⟨c,I1,ρ1,rfl,aB,nW⟩
 have keep:∀c,I c→w'.heap[c]?=w.heap[c]?:=λc hc=>aB.ext.keep c (.inl (.inl hc));have bU:=aB.ext.size;have lc:∀b o p,a7w H1 b=some o→ρ1 b=some p→¬I1 p.blk∧¬K p.blk:=by intro b o p hb hp;obtain⟨q,hq,h3,h4,_⟩:=aB.rel.live b o (a93 hb).1;rw[hp]at hq;cases hq;exact⟨h3,h4⟩
 have qm:HRel E.G I K ρ1 (a7w H1) w':=by
  refine⟨?_,?_,aB.rel.dom,λc hc=>by have:=r.imm c hc;omega,aB.rel.kept,r.apart,λg cs hg=>⟨(r.glob g cs hg).1,VAt.mono (λ_ h=>h) keep cs (λ_ _ h=>h) (keep _ (r.glob g cs hg).1) (r.glob g cs hg).2⟩⟩
  ·intro b o hb;obtain⟨da,eK⟩:=a93 hb;obtain⟨q,hq,h3,h4,h5⟩:=aB.rel.live b o da;exact⟨q,hq,λhc=>h3 (aB.imm _ (.inl hc)),h4,ORel.noI o eK h5⟩
  ·intro b b' m m' hb bq;obtain⟨o,ho⟩:=f4k.1 hb;obtain⟨o',d8⟩:=f4k.1 bq;exact aB.rel.inj b b' m m' (by rw[(a93 ho).1];rfl) (by rw[(a93 d8).1];rfl)
 have kg:=b3g (I':=a52 I ρ1 (a7w H1) 0) (λc hc=>.inl hc) (a8d qm 12) v hv (VRel.noI (I':=I) v hn nW);rw[a96]at kg;refine⟨c,a52 I ρ1 (a7w H1) 0,rfl,λc hc=>.inl hc,⟨aB.ext.os,aB.ext.tape,aB.ext.output,bU,λc hc=>aB.ext.keep c (hc.imp .inl id)⟩,?_,VRel.mono (λ_ h=>h) (λ_ _=>rfl) v' (λ_ _ h=>by simp[noP]at h) kg⟩;refine⟨?_,r.inj,λb m hb=>by have:=r.dom b m hb;omega,?_,aB.rel.kept,?_,λg cs hg=>⟨.inl (r.glob g cs hg).1,VAt.mono (λc hc=>.inl hc) keep cs (λ_ _ h=>h) (keep _ (r.glob g cs hg).1) (r.glob g cs hg).2⟩⟩
 ·intro b o hb;obtain⟨m,h3,h4,h5,h6⟩:=r.live b o hb;have dS:a52 I ρ h 0 m.blk:=.inr ⟨b,o,m,f4m _,hb,h3,rfl⟩;refine⟨m,h3,?_,h5,ORel.mono o (λc hc=>.inl hc) keep (λ_ _ h=>h) (aB.ext.keep _ (.inl dS)) h6⟩
  rintro(hc|⟨b',o',p,_,bq,hp,he⟩)
  ·exact h4 hc
  ·exact(lc b' o' p bq hp).1 (he▸aB.imm _ dS)
 ·rintro c (hc|⟨b',o',p,_,bq,hp,rfl⟩)
  ·have:=r.imm c hc;omega
  ·exact aB.rel.dom b' p hp
 ·rintro c (hc|⟨b',o',p,_,bq,hp,rfl⟩)
  ·exact r.apart c hc
  ·exact(lc b' o' p bq hp).2
theorem b6e{run:List AV→a03→Option (AV×a03)}{args:List AV}{H H':a03}{v':AV}{σ:List Nat}(ak:a9y run args H=some (v',H',σ)) :
 H'=H∧σ=List.range H.length∧∃au v H1,a5t 0 false (a54 (a01 H) 0 12) args=some au∧run au []=some (v,H1)∧noI v=true∧a4j 0 false (a54 (a7w H1) 0 12) v=some v':=by
 unfold a9y at ak;split at ak
 case h_2=>cases ak
 rename_i au h1;split at ak
 case h_2=>cases ak
 rename_i v H1 h2;rw[cond_eq_ite]at ak;split at ak
 case isFalse=>cases ak
 rename_i h3;split at ak
 case h_2=>cases ak
 rename_i v2 h4;cases ak;exact⟨rfl,rfl,au,v,H1,h1,h2,h3,h4⟩
theorem c9k{g:FuncId}{run:List AV→a03→Option (AV×a03)}(ae:b1g E g run){args:List AV}{ap:List Value}{H H':a03}{v:AV}{σ:List Nat}
 (ak:a9y run args H=some (v,H',σ))(r:HRel E.G I K ρ (a01 H) w)(hn:NRel ρ H.length)(ha:VRels I w ρ args ap) :
 XOf E g ap w λen w'=>∃c I' ρ',en = .returned c∧Ret E I K ρ H.length w I' ρ' H' w'∧VRel I' w' ρ' v c:=by
 obtain⟨rfl,-,au,v0,H1,h1,h2,h3,h4⟩:=b6e ak;refine XOf.mono (c3a ae (λ_ _ h=>h) r ha h1 h2 h3 h4) ?_
 rintro en w' ⟨c,I',rfl,hI,cq,bP,hv⟩
 exact⟨c,I',ρ,rfl,⟨hI,λ_ _=>rfl,cq,bP,hn,f6l _⟩,hv⟩
end
end Go.Ax
/- AxSeq: operations in a row that draw no order. -/
namespace Go.Ax
section
variable {E:Env}
theorem Now.call{e:Entry}{N:Nat}{F:Frm}{H H':a03}{I I':Nat→Prop}{ρ ρ':PMap}{a:Act}{w w':World}(h:Now E e N F H I ρ a w)(r:Ret E I e.K ρ H.length w I' ρ' H' w')
 {d:Option Tmp}{v:AV}{c:Value}(hd:a8f N d=true)(hv:VRel I' w' ρ' v c):Now E e N (a4i F d v) H' I' ρ' (a.put d c) w':=by
 have hρ:∀b m,ρ b=some m→ρ' b=some m:=by
  intro b m hb;have:b<H.length:=by
   rcases g04 b H.length with h'|h'
   ·exact h'
   ·rw[h.nrel b h']at hb;cases hb
  rw[r.map b this];exact hb
 refine⟨λc hc=>r.imm c (h.imm c hc),λb hb=>?_,h.ext.trans h.imm r.ext,r.rel,r.nrel,?_,?_,?_⟩
 ·rw[r.map b (by have:=h.low;omega)];exact h.map b hb
 ·exact(FRel.mono h.frm (λv c hv=>VRel.mono r.imm (λc hc=>r.ext.keep c (.inl hc)) v hρ hv)).set (by intro s hs;rw[hs]at hd;simpa[a8f,f8f]using hd) hv
 ·have:=h.low;have:=r.low;omega
 ·rw[a3q];exact h.marks.mono r.imm (λc hc=>r.ext.keep c (.inl hc))
def a4w(E:Env)(call:FuncId→List AV→a03→Option (AV×a03)):Prop:=∀g,b1g E g (call g)
theorem d1m(ok:EnvOk E){ro:Option Nat}{call:FuncId→List AV→a03→Option (AV×a03)}(ak:a4w E call){ag:Bool}{e:Entry}{N:Nat}{F:Frm}{H H':a03}{I:Nat→Prop}{ρ:PMap}{a:Act}{w:World}
 (h:Now E e N F H I ρ a w){o:Oper}{v:AV}{l:LogE}(hs:a0w E ag call F H o.op=some (v,H',l))(hd:a8f N o.dst=true){K:Act→World→Prop}{Q:Exit→Act→World→Prop}
 (hK:∀I' ρ' a' w',Now E e N (a4i F o.dst v) H' I' ρ' a' w'→K a' w'):o.wpIn (wf ro) 0 E.P a w K Q:=by
 unfold a0w at hs;split at hs
 ·rename_i f args pm du;split at hs
  case h_2=>cases hs
  rename_i v' H1 σ a7;cases hs;refine a9h (by rw[du];intro c hc;cases hc) ?_;unfold a0b at a7;split at a7
  case h_3=>cases a7
  case h_2=>
   rename_i b iE;have hf:=b5x h.rel h.frm f;rw[iE]at hf;simp only[VRel]at hf;obtain⟨m,hm,eS⟩:=hf;rw[b9i du eS];split at a7
   case h_2=>cases a7
   rename_i nA H2 σ2 eB;rw[cond_eq_ite]at a7;split at a7
   case isTrue=>cases a7
   cases a7;have aL:VRels I w ρ (.yfn b::args.toList.map (opv E F)) (.func (.yield m.blk) #[] #[]::(args.map a.eval).toList):=by simp only[VRels];refine⟨_,_,rfl,by simp only[VRel];exact⟨m,hm,rfl⟩,?_⟩;rw[g0n];exact a6a (b5x h.rel h.frm) args.toList
   have hc:=b3r (ak yId) eB h.rel h.nrel aL;rw[e6g]at hc;obtain⟨l,vs,fn,tmps,asg,body,he,hy,hr⟩:=hc;simp only[List.cons.injEq,Value.func.injEq,Fn.yield.injEq,and_true]at he;obtain⟨hl,rfl⟩:=he;rw[hl];have bF:(args.map a.eval).toList.toArray=args.map a.eval:=by apply g15;simp
   rw[bF]at hy;rw[hy];refine b89 (hr.mono ?_)
   rintro en w' ⟨c,I',ρ',rfl,aB,dh⟩
   exact hK I' ρ' _ _ (h.call aB hd dh)
  rename_i g fs cs iE;have hf:=b5x h.rel h.frm f;rw[iE]at hf;simp only[VRel]at hf;obtain⟨cR,aO,eS,gJ,eJ⟩:=hf;have aL:VRels I w ρ (fs++args.toList.map (opv E F)++cs) (cR++args.map a.eval++aO).toList:=by simp only[Array.toList_append,g0n];exact VRels.append (VRels.append gJ (a6a (b5x h.rel h.frm) args.toList)) eJ
  rw[b27 du eS];rw[cond_eq_ite]at a7;split at a7
  ·rename_i cq;rw[cond_eq_ite]at a7;split at a7
   ·rename_i hg;rw[a4r ok hg];have hc:=c9k (ak g) a7 h.rel h.nrel aL;obtain⟨i,hi⟩:=f4k.1 hg;rw[b4i (c9w ok hi)]at hc;have bF:(cR++args.map a.eval++aO).toList.toArray=cR++args.map a.eval++aO:=by apply g15;simp
    rw[bF]at hc;refine b09 (Calls.mono hc ?_)
    rintro en w' ⟨c,I',ρ',rfl,aB,dh⟩
    exact hK I' ρ' _ _ (h.call aB hd dh)
   rename_i cj;split at a7
   case h_2=>cases a7
   rename_i nA l3;cases a7;obtain⟨c,ae,dh⟩:=b4f (E:=E) (w:=w) ok cq (by simpa using cj) l3 aL;have bF:(cR++args.map a.eval++aO).toList.toArray=cR++args.map a.eval++aO:=by apply g15;simp
   rw[bF]at ae;rw[ae,Oper.uponIn_value];exact hK I ρ _ _ (h.call ⟨λ_ h=>h,λ_ _=>rfl,Ext.refl _ _ _,h.rel,h.nrel,f6l _⟩ hd dh)
  ·rw[cond_eq_ite]at a7;split at a7
   case isFalse=>cases a7
   rename_i hg;split at a7
   case h_2=>cases a7
   rename_i nA H2 σ2 eB;rw[cond_eq_ite]at a7;split at a7
   case isTrue=>cases a7
   cases a7;rw[a4r ok hg];have hc:=b3r (ak g) eB h.rel h.nrel aL;obtain⟨i,hi⟩:=f4k.1 hg;rw[b4i (c9w ok hi)]at hc;have bF:(cR++args.map a.eval++aO).toList.toArray=cR++args.map a.eval++aO:=by apply g15;simp
   rw[bF]at hc;refine b09 (Calls.mono hc ?_)
   rintro en w' ⟨c,I',ρ',rfl,aB,dh⟩
   exact hK I' ρ' _ _ (h.call aB hd dh)
 ·split at hs
  case h_2=>cases hs
  rename_i v' eff ha;rw[cond_eq_ite]at hs;split at hs
  case isFalse=>cases hs
  cases hs;obtain⟨x,w',c,ρ',ae,hx,aj⟩:=h.op ok ha hd;refine a9h (b7n ha) ?_;rw[ae];rcases hx with rfl|⟨rfl,rfl⟩
  ·rw[Oper.uponIn_value];exact hK I ρ' _ _ aj
  ·rw[Oper.uponIn_skip];exact hK I ρ' _ _ aj
theorem b87{ro:Option Nat}{P:Program}{al:Array Oper}{Q:Exit→Act→World→Prop}{i:Nat}{af:List Nat}{a:Act}{w:World}{o:Oper}(ho:al[i]?=some o)
 (hw:Region.wanted o (yielded al a.tmps)=true)(h:o.wpIn (wf ro) 0 P a w (wpOpsIn (wf ro) 0 P al Q af) Q):wpOpsIn (wf ro) 0 P al Q (i::af) a w:=by
 simp only[wpOpsIn,ho,hw,f9q];exact h
theorem c8q{ro:Option Nat}{P:Program}{al:Array Oper}{Q:Exit→Act→World→Prop}{i:Nat}{af:List Nat}{a:Act}{w:World}{o:Oper}(ho:al[i]?=some o)
 (hw:Region.wanted o (yielded al a.tmps)=false)(h:wpOpsIn (wf ro) 0 P al Q af (a.put o.dst undef) w):wpOpsIn (wf ro) 0 P al Q (i::af) a w:=by
 simp only[wpOpsIn,ho,hw,f9h,g0z];exact⟨λf _=>e24 ro f,h⟩
theorem c8o{e:Entry}{N:Nat}{F:Frm}{H:a03}{I:Nat→Prop}{ρ:PMap}{a:Act}{w:World}(h:Now E e N F H I ρ a w){al:Array Oper}{j d:Nat}(hg:a3m al.toList j=some d) :
 (∀b,a34 F d = .bool b→yielded al a.tmps j=some b)∧(a34 F d = .tuple []→yielded al a.tmps j=none):=by
 have hd:(al[j]?).bind (·.dst)=some d:=by simpa[a3m]using hg
 have hv:=h.frm.2 d;have aI:∀c,a.tmps.getD d undef=c→c≠undef→a.tmps[d]?=some c:=by
  intro c hc aF;rw[f8i]at hc;cases hx:a.tmps[d]? with
  |none=>rw[hx]at hc;exact absurd hc.symm aF
  |some x=>rw[hx]at hc;simpa using hc
 refine⟨λb hb=>?_,λhb=>?_⟩
 ·rw[hb]at hv;simp only[VRel]at hv;have:=aI _ hv (by simp[undef]);simp[yielded,hd,this]
 ·rw[hb]at hv;simp only[VRel]at hv;obtain⟨cs,hc,eJ⟩:=hv;unfold yielded;rw[hd];simp only[g08];rw[f8i]at hc;cases hx:a.tmps[d]? with
  |none=>rfl
  |some x=>rw[hx]at hc;simp only[f9l]at hc;rw[hc]
theorem b2z(ok:EnvOk E){ro:Option Nat}{call:FuncId→List AV→a03→Option (AV×a03)}(ak:a4w E call){e:Entry}{N:Nat}{al:Array Oper}{R:Type}{k:Frm→a03→Option R}{r:R}
 {Q:Exit→Act→World→Prop}(hQ:∀F H I ρ a w,Now E e N F H I ρ a w→k F H=some r→Q .normal a w) :
 ∀(af:List Oper) (s:Nat) (log:List LogE) (F:Frm) (H:a03) (I:Nat→Prop) (ρ:PMap) (a:Act) (w:World),af=al.toList.drop s→Now E e N F H I ρ a w→
  a2z E false N call al.toList af log F H k=some r→wpOpsIn (wf ro) 0 E.P al Q (List.range' s af.length) a w
 | [],s,log,F,H,I,ρ,a,w,_,aj,ae=>by simp only[a2z,Bool.not_false,Bool.true_or,f6g]at ae;simp only[f4o,List.range'_zero,wpOpsIn];exact hQ F H I ρ a w aj ae
 |o::af,s,log,F,H,I,ρ,a,w,cX,aj,ae=>by
  have ho:al[s]?=some o:=by
   have:(al.toList.drop s)[0]?=some o:=by rw[←cX];rfl
   rw[g1s]at this;simpa using this
  have fI:af=al.toList.drop (s+1):=by
   have:(al.toList.drop s).drop 1=af:=by rw[←cX];rfl
   rw[List.drop_drop]at this;exact this.symm
  rw[e12,List.range'_succ];unfold a2z at ae;rw[cond_eq_ite]at ae;split at ae
  case isFalse=>cases ae
  rename_i hd;have ih:=λlog F H I ρ a w aj ae=>b2z (ro:=ro) ok ak hQ af (s+1) log F H I ρ a w fI aj ae;have exec:∀F0,Now E e N F0 H I ρ a w→(match a0w E false call F0 H o.op with
   |some (v,H',l)=>a2z E false N call al.toList af (l::log) (a4i F0 o.dst v) H' k
   |none=>none)=some r→Region.wanted o (yielded al a.tmps)=true→wpOpsIn (wf ro) 0 E.P al Q (s::List.range' (s+1) af.length) a w:=by
   intro F0 dc hr hw;split at hr
   case h_2=>cases hr
   rename_i v H' l hs;exact b87 ho hw (d1m ok ak dc hs hd (λI' ρ' a' w' iy=>ih _ _ _ I' ρ' a' w' iy hr))
  have skip:∀F0 gd,Now E e N F0 H I ρ a w→a2z E false N call al.toList af gd (a4i F0 o.dst (.tuple [])) H k=some r→Region.wanted o (yielded al a.tmps)=false→
   wpOpsIn (wf ro) 0 E.P al Q (s::List.range' (s+1) af.length) a w:=by
   intro F0 gd dc hr hw;exact c8q ho hw (ih _ _ _ I ρ _ w (dc.skip hd) hr)
  split at ae
  ·rename_i hg;exact exec F aj ae (by simp[Region.wanted,hg])
  ·rename_i j bI hg;split at ae
   case h_1=>cases ae
   rename_i d oL;obtain⟨ut,us⟩:=c8o aj oL;split at ae
   ·rename_i b hb;have qv:=ut b hb;have kf:=aj.frm.2 d;rw[hb]at kf;have hw:Region.wanted o (yielded al a.tmps)=(b==bI):=by simp[Region.wanted,hg,qv]
    cases b
    ·simp only[f7z]at ae;have dc:=aj.refine (d:=d) (v:=.bool false) kf;cases bI
     ·simp only[f7z]at ae;exact exec _ dc ae (by rw[hw];rfl)
     ·simp only[f6g]at ae;exact skip _ _ dc ae (by rw[hw];rfl)
    ·simp only[f6g]at ae;have dc:=aj.refine (d:=d) (v:=.bool true) kf;cases bI
     ·simp only[f7z]at ae;exact skip _ _ dc ae (by rw[hw];rfl)
     ·simp only[f6g]at ae;exact exec _ dc ae (by rw[hw];rfl)
   ·rename_i hb;have qv:=us hb;exact skip F _ aj ae (by simp[Region.wanted,hg,qv])
   ·cases ae
end
end Go.Ax
/- AxGc: what may be forgotten: slots behind a region, blocks at a loop's head. -/
namespace Go.Ax
section
variable {E:Env}{e:Entry}{N:Nat}{F:Frm}{H:a03}{I:Nat→Prop}{ρ:PMap}{a:Act}{w:World}
theorem b6n(F:Frm):∀(keep:List Nat) (s:Nat),a34 (a2c keep F) s=if keep.contains s then a34 F s else .junk
 | [],s=>by simp[a2c,a34]
 |t::keep,s=>by
  have ih:=b6n F keep s;simp only[a2c]at ih⊢;simp only[c10,a34,d63,ih];by_cases qy:t=s
  ·subst qy;simp
  ·have:(s==t)=false:=by simpa using λh=>qy h.symm
   have hc:(t::keep).contains s=keep.contains s:=by rw[List.contains_cons,this,Bool.false_or]
   rw[hc,f9i.2 qy];rfl
theorem Now.keep(h:Now E e N F H I ρ a w)(keep:List Nat):Now E e N (a2c keep F) H I ρ a w:=
 { h with frm:=⟨h.frm.1,λs=>by
  rw[b6n];split
  ·exact h.frm.2 s
  ·simp[VRel]⟩ }
theorem c7s(π:Nat→Option Nat):∀(F:Frm) (s:Nat),a34 (c0f π F) s=ren π (a34 F s)
 | [],s=>by simp[c0f,a34,ren]
 |(t,v)::F,s=>by have ih:=c7s π F s;simp only[c0f]at ih⊢;simp only[c10,a34,d63,ih];cases h:(t==s)<;>simp
theorem Now.gc(h:Now E e N F H I ρ a w){σ:List Nat}(hn:σ.Nodup)(cN:∀b∈σ,e.m≤b) :
 ∃ρ',Now E e N (c0f (c1b e.m σ) F) (gcH e.m σ H) I ρ' a w:=by
 have ai:(gcH e.m σ H).length=e.m+σ.length:=by have:=h.low;simp[gcH,a5a];omega
 have hπ:∀b b' m,c1b e.m σ b=some b'→ρ b=some m→(if b'<e.m then ρ b' else(σ[b'-e.m]?).bind ρ)=some m:=by
  intro b b' m hp hb;simp only[c1b]at hp;rw[cond_eq_ite]at hp;split at hp
  ·rename_i ah;cases hp;rw[f6e (by simpa[f8f]using ah)];exact hb
  ·obtain⟨j,hj,rfl⟩:=a08 hp;rw[f4n (by omega),g10,a2t hj];exact hb
 refine⟨λb=>if b<e.m then ρ b else(σ[b-e.m]?).bind ρ,h.imm,λb hb=>?_,h.ext,?_,?_,?_,?_,h.marks⟩
 ·show(if b<e.m then ρ b else _)=_;rw[f6e hb];exact h.map b hb
 ·refine h.rel.rename (π:=c1b e.m σ) hπ ?_ ?_
  ·intro b' o' ho;simp only[a01,gcH]at ho;have cH:(H.take e.m).length=e.m:=by have:=h.low;simp;omega
   rcases g04 b' e.m with hb|hb
   ·rw[f6d (by rw[f4j,cH];exact hb),f4q,g0s,f6e hb]at ho;cases hx:H[b']? with
    |none=>rw[hx]at ho;simp at ho
    |some ob=>rw[hx]at ho;simp only[f5x,g0o]at ho;obtain⟨o,rfl,rfl⟩:=a08 ho;refine⟨b',o,by simp[a01,hx],?_,rfl⟩;simp only[c1b];rw[cond_eq_ite,f6e (by simpa[f8f]using hb)]
   ·rw[f8k (by rw[f4j,cH];exact hb)]at ho;simp only[f4j,cH,a5a,f4q]at ho;cases hx:σ[b'-e.m]? with
    |none=>rw[hx]at ho;simp at ho
    |some b=>rw[hx]at ho;simp only[f5x,g0o]at ho;obtain⟨o,dX,rfl⟩:=a08 ho;refine⟨b,o,dX,?_,rfl⟩;have dZ:=cN b (c11 hx);simp only[c1b];rw[cond_eq_ite,f4n (by simpa[f8f]using dZ),a9z hn hx];simp only[f5x,Option.some.injEq];omega
  ·intro b m hb;split at hb
   ·exact h.rel.dom b m hb
   ·cases hx:σ[b-e.m]? with
    |none=>rw[hx]at hb;simp at hb
    |some b'=>rw[hx]at hb;exact h.rel.dom b' m hb
 ·intro b hb;rw[ai]at hb;show(if b<e.m then ρ b else _)=_;rw[f4n (by omega),f6h (by omega)];rfl
 ·refine⟨h.frm.1,λs=>?_⟩;rw[c7s];exact VRel.ren hπ _ (h.frm.2 s)
 ·rw[ai];omega
theorem e4j{H:a03}{m b:Nat}{o':AObj}(hb:a01 (d45 m H) b=some o'):∃o,b<m∧a01 H b=some o∧o'=a0t (a1z m) o:=by
 simp only[a01,d45,f4q,g0s]at hb;split at hb
 case isFalse=>simp at hb
 rename_i ah;cases hx:H[b]? with
 |none=>rw[hx]at hb;simp at hb
 |some ob=>rw[hx]at hb;simp only[f5x,g0o]at hb;obtain⟨o,rfl,rfl⟩:=a08 hb;exact⟨o,ah,by simp[a01,hx],rfl⟩
theorem c7t(m:Nat)(H:a03):∀(F:Frm) (s:Nat),a34 (d64 m H F) s = .junk∨a34 (d64 m H F) s=f5w m H (a34 F s)
 | [],s=>.inl (by simp[d64,a34])
 |(t,v)::F,s=>by
  have ih:=c7t m H F s;simp only[d64]at ih⊢;simp only[c10,a34,d63];cases h:(t==s)
  ·simpa using ih
  ·right;simp
theorem Now.frz(h:Now E e N F H I ρ a w):∃I' ρ',Now E e N (d64 e.m H F) (d45 e.m H) I' ρ' a w:=by
 have ai:(d45 e.m H).length=e.m:=by have:=h.low;simp[d45];omega
 have cN:∀b o',a01 (d45 e.m H) b=some o'→∃o,b<e.m∧a01 H b=some o∧o'=a0t (a1z e.m) o:=λb o' hb=>e4j hb;refine⟨a52 I ρ (a01 H) e.m,ρ.below e.m true,λc hc=>.inl (h.imm c hc),λb hb=>?_,h.ext,?_,?_,⟨h.frm.1,λs=>?_⟩,by rw[ai];exact f6l _,h.marks.mono (λ_ h=>.inl h) (λ_ _=>rfl)⟩
 ·rw[←h.map b hb];simp[PMap.below,hb]
 ·exact(b23 h.rel (v:=.junk) (v':=.junk) (c:=.nilFunc) (n:=12) (m:=e.m) rfl (by simp[VRel]) cN).1
 ·intro b hb;rw[ai]at hb;simp only[PMap.below];rw[f4n (by omega)]
 ·rcases c7t e.m H F s with h1|h1
  ·rw[h1];simp[VRel]
  ·rw[h1];simp only[f5w];cases hv:a4j e.m true (a54 (a01 H) e.m 12) (a34 F s)with
   |none=>simp[VRel]
   |some v'=>exact(b23 h.rel hv (h.frm.2 s) cN).2
theorem Now.drew(h:Now E e N F H I ρ a w):Now E e N F H I ρ a { w with drawn:=w.drawn+1 }:=by
 have s:SameMem w { w with drawn:=w.drawn+1 }:=⟨rfl,rfl,rfl,rfl⟩
 exact⟨h.imm,h.map,h.ext.trans h.imm (s.ext I e.K),h.rel.same s,h.nrel,FRel.mono h.frm (λv c hv=>VRel.mono (w:=w) (w':={ w with drawn:=w.drawn+1 }) (λ_ h=>h) (λ_ _=>rfl) v (λ_ _ h=>h) hv),h.low,h.marks⟩
end
/-! ### a loop that is counted -/
theorem c28{ro:Option Nat}{P:Program}{c:Code}{Q:Exit→Act→World→Prop}(Inv:Nat→Act→World→Prop)
 (round:∀n a w,Inv (n+1) a w→c.wpIn (wf ro) 0 P (Exit.then (Inv n) Q) a w)(zero:∀a w,¬Inv 0 a w){n:Nat}{a:Act}{w:World}(h:Inv n a w):(Code.loop c).wpIn (wf ro) 0 P Q a w:=by
 have key:∀n a w,Inv n a w→Code.roundsIn (wf ro) 0 P c Q n a w:=by
  intro n
  induction n with
  |zero=>intro a w h;exact absurd h (zero a w)
  |succ n ih=>
   intro a w hI;rw[roundsIn_succ];refine wpIn_mono (round n a w hI) ?_;intro e a w hq;cases e with
   |normal=>exact ih a w hq
   |_=>exact hq
 exact wpIn_loop_rounds n (key n a w h)
end Go.Ax
/- AxLoc: what an operation looks at: the slots of its operands, the blocks that its operands name. -/
namespace Go.Ax
section
variable {E:Env}{n:Nat}{h h':FHeap}
theorem a97{x:AV}(k:Nat)(hh:∀b∈a0o x,h b=h' b):a3c h k x=a3c h' k x:=by cases x<;>simp only[a0o,f6f,forall_eq]at hh<;>simp only[a3c];rw[hh]
theorem d0p{x:AV}(t:TypeId)(hh:∀b∈a0o x,h b=h' b):c4t E h t x=c4t E h' t x:=by unfold c4t;generalize E.und t=u;cases x<;>simp only[a0o,f6f,forall_eq]at hh<;>(rcases u with _|d;· rfl)<;>cases d<;>first|rfl|(simp only[hh];done)
theorem c6n{x:AV}(t:TypeId)(hh:∀b∈a0o x,h b=h' b):a7l E h t x=a7l E h' t x:=by cases x<;>simp only[a0o,f6f,forall_eq]at hh<;>simp only[a7l];rw[hh]
theorem c4f{p x:AV}(t:TypeId)(hh:∀b∈a0o p,h b=h' b):a9c E h t p x=a9c E h' t p x:=by cases p<;>simp only[a0o,f6f,forall_eq]at hh<;>simp only[a9c];rw[hh]
theorem c4g{x:AV}(t:TypeId)(lo hi mx:Option AV)(hh:∀b∈a0o x,h b=h' b):a5n E h t x lo hi mx=a5n E h' t x lo hi mx:=by unfold a5n;generalize E.und t=u;cases x<;>simp only[a0o,f6f,forall_eq]at hh<;>(rcases u with _|d;· rfl)<;>cases d<;>first|rfl|(simp only[hh];done)
theorem b4q{x:AV}(t:TypeId)(i:AV)(hh:∀b∈a0o x,h b=h' b):a10 E h t x i=a10 E h' t x i:=by unfold a10;generalize E.und t=u;cases x<;>simp only[a0o,f6f,forall_eq]at hh<;>(rcases u with _|d;· rfl)<;>cases d<;>first|rfl|(simp only[hh];done)
theorem c4o{x:AV}(hh:∀b∈a0o x,h b=h' b):b0r h x=b0r h' x:=by cases x<;>simp only[a0o,f6f,forall_eq]at hh<;>simp only[b0r];rw[hh]
theorem c1v{x:AV}(t:TypeId)(k:AV)(ok:Bool)(hh:∀b∈a0o x,h b=h' b):a2f E h t x k ok=a2f E h' t x k ok:=by simp only[a2f,c4o hh]
theorem b07{x:AV}(t:TypeId)(k:AV)(hh:∀b∈a0o x,h b=h' b):a9d E h t x k=a9d E h' t x k:=by unfold a9d;generalize E.und t=u;cases x<;>simp only[a0o,f6f,forall_eq]at hh<;>(rcases u with _|d;· rfl)<;>cases d<;>first|rfl|(simp only[hh];done)
theorem b3w{x:AV}(s v:AV)(hh:∀b∈a0o x,h b=h' b):a2o h x s v=a2o h' x s v:=by
 unfold a2o;split
 ·rw[hh _ (by simp[a0o])]
 ·rfl
theorem c2a{x:AV}(hh:∀b∈a0o x,h b=h' b):b59 h x=b59 h' x:=by cases x<;>simp only[a0o,f6f,forall_eq]at hh<;>simp only[b59];rw[hh]
theorem c4r{x:AV}(t:TypeId)(k:AV)(ok:Bool)(hh:∀b∈a0o x,h b=h' b):b2k E h t x k ok=b2k E h' t x k ok:=by simp only[b2k,c2a hh]
theorem b7j{x:AV}(t:TypeId)(k v:AV)(hh:∀b∈a0o x,h b=h' b):b2e E h t x k v=b2e E h' t x k v:=by
 unfold b2e;split
 ·rw[hh _ (by simp[a0o])]
 ·rfl
theorem c6o{x:AV}(t:TypeId)(k:AV)(hh:∀b∈a0o x,h b=h' b):b7p E h t x k=b7p E h' t x k:=by
 unfold b7p;split
 ·rw[hh _ (by simp[a0o])]
 ·rfl
theorem c20{x:AV}(hh:∀b∈a0o x,h b=h' b):a98 h x=a98 h' x:=by
 unfold a98;split
 ·rw[hh _ (by simp[a0o])]
 ·rfl
theorem c6m{x:AV}(s:Bool)(hh:∀b∈a0o x,h b=h' b):c4n h x s=c4n h' x s:=by
 unfold c4n;split
 ·rw[hh _ (by simp[a0o])]
 ·rfl
theorem c4u{x:AV}(s d:TypeId)(hh:∀b∈a0o x,h b=h' b):a7e E h s d x=a7e E h' s d x:=by
 have key:=λk=>a97 k hh;unfold a7e;split
 ·rfl
 ·rw[key]
 ·rfl
theorem c21{s x:AV}(st xt:TypeId)(hs:∀b∈a0o s,h b=h' b)(hx:∀b∈a0o x,h b=h' b):a5p E h n st xt s x=a5p E h' n st xt s x:=by cases s<;>simp only[a0o,f6f,forall_eq]at hs<;>simp only[a5p,a97 _ hx];rw[hs]
theorem c6p{d x:AV}(dt:TypeId)(hs:∀b∈a0o d,h b=h' b)(hx:∀b∈a0o x,h b=h' b):d0s E h dt d x=d0s E h' dt d x:=by cases d<;>simp only[a0o,f6f,forall_eq]at hs<;>simp only[d0s,a97 _ hx];rw[hs]
theorem c4v{x:AV}(t:TypeId)(hh:∀b∈a0o x,h b=h' b):b9t E h t x=b9t E h' t x:=by unfold b9t;generalize E.und t=u;cases x<;>simp only[a0o,f6f,forall_eq]at hh<;>(rcases u with _|d;· rfl)<;>cases d<;>first|rfl|(simp only[hh];done)
theorem d0u(b:Builtin)(ts:List TypeId)(args:List AV)(hh:∀b∈args.flatMap a0o,h b=h' b):e08 E n h b ts args=e08 E n h' b ts args:=by
 unfold e08;split
 ·rw[d0p _ (λb hb=>hh b (by simpa using hb))]
 ·rfl
 ·rw[c21 _ _ (λb hb=>hh b (by simp[hb])) (λb hb=>hh b (by simp[hb]))]
 ·rw[c6p _ (λb hb=>hh b (by simp[hb])) (λb hb=>hh b (by simp[hb]))]
 ·rw[c4v _ (λb hb=>hh b (by simpa using hb))]
 ·rw[c6o _ _ (λb hb=>hh b (by simp[hb]))]
 ·rfl
 ·rfl
 ·rfl
theorem d5e{op:Op}{v:Operand→AV}(hh:∀b∈a9e op v,h b=h' b):aop E n h op v=aop E n h' op v:=by
 cases op<;>simp only[a9e]at hh<;>simp only[aop]
 case load=>rw[c6n _ hh]
 case store=>rw[c4f _ hh]
 case convert=>rw[c4u _ _ hh]
 case slice=>rw[c4g _ _ _ _ hh]
 case indexAddr=>rw[b4q _ _ hh]
 case lookup=>rw[c1v _ _ _ hh,c4r _ _ _ hh]
 case mapUpdate=>simp only[a16,b07 _ _ hh,b7j _ _ _ hh]
 case insert=>simp only[a16,b07 _ _ hh,b7j _ _ _ hh]
 case mapEntry=>simp only[a45,b07 _ _ hh]
 case entryStore=>rw[b3w _ _ hh]
 case next=>rw[c6m _ hh]
 case entry=>rw[c20 hh]
 case call c=>
  obtain⟨callee,args,ts⟩:=c;cases callee with
  |builtin b=>simp only at hh⊢;exact d0u _ _ _ (by simpa[List.flatMap_map]using hh)
  |_=>rfl
theorem d5f{op:Op}{v v':Operand→AV}(hv:∀x∈op.operands,v x=v' x):aop E n h op v=aop E n h op v':=by
 have pairs:∀ps:Array (Nat×Operand),(∀x∈(ps.toList.map (·.2)).toArray,v x=v' x)→(ps.toList.map λp=>(p.1,v p.2))=(ps.toList.map λp=>(p.1,v' p.2)):=λps hp=>f8e λp hm=>by rw[hp p.2 (by simp only[List.mem_toArray,g01];exact⟨p,hm,rfl⟩)]
 cases op<;>simp only[Op.operands]at hv<;>simp only[aop]
 case build t ps=>rw[pairs ps hv]
 case buildSlice t n ps=>rw[pairs ps hv]
 case makeFunc fn first gE=>rw[f8e (l:=first.toList) λx hx=>hv x (by simp only[Array.mem_append];exact .inl (by simpa using hx)),f8e (l:=gE.toList) λx hx=>hv x (by simp only[Array.mem_append];exact .inr (by simpa using hx))]
 case call c=>
  obtain⟨callee,args,ts⟩:=c;cases callee with
  |builtin b=>simp only;rw[f8e (l:=args.toList) λx hx=>hv x (by simp only[Call.operands];simp;simpa using hx)]
  |_=>rfl
 case makeMap t r=>cases r<;>simp_all
 case slice t x lo hi mx=>cases lo<;>cases hi<;>cases mx<;>simp_all
 all_goals (first|rfl|(simp_all;done))
end
end Go.Ax
/- AxOrd: operations in any order that their edges allow: what the executed ones amount to, in text order. -/
namespace Go.Ax
/-! ### lists that grow at the front, numbered from the back -/
section
variable {R V:Type}
def nth:List R→Nat→Option R
 | [],_=>none
 |r::af,j=>if j=af.length then some r else nth af j
def pre:List R→Nat→List R
 | [],_=>[]
 |_::af,i=>if i=af.length then af else pre af i
theorem b5z:∀{l:List R} {i:Nat} {r:R},nth l i=some r→i<l.length
 | [],i,r,h=>by simp[nth]at h
 |a::af,i,r,h=>by
  unfold nth at h;split at h
  ·simp;omega
  ·have:=b5z h;simp;omega
theorem c7c:∀{l:List R} {i:Nat},i<l.length→∃r,nth l i=some r
 | [],i,h=>by simp at h
 |a::af,i,h=>by
  unfold nth;split
  ·exact⟨a,rfl⟩
  ·exact c7c (by simp at h;omega)
theorem b4v{a:R}{l:List R}{i:Nat}{r:R}(h:nth l i=some r):nth (a::l) i=some r:=by have:=b5z h;unfold nth;rw[f4n (by omega)];exact h
theorem c0q(a:R)(l:List R):nth (a::l) l.length=some a:=by simp[nth]
def gL(o:R→Nat→Option V)(g0:Nat→V)(S:Nat→Bool):List R→Nat→V
 | []=>g0
 |r::af=>if S af.length then λs=>(o r s).getD (gL o g0 S af s)else gL o g0 S af
def a55:Nat→Bool:=λ_=>true
def c2u(S:Nat→Bool)(i:Nat):Nat→Bool:=λj=>j==i||S j
variable {o:R→Nat→Option V}{g0:Nat→V}{S:Nat→Bool}
theorem c7w{s:Nat}:∀{l:List R},(∀j r',nth l j=some r'→(o r' s).isSome→S j=true)→gL o g0 S l s=gL o g0 a55 l s
 | [],_=>rfl
 |a::af,h=>by
  have ih:=c7w (l:=af) (λj r' hj=>h j r' (b4v hj));simp only[gL,a55];cases ha:o a s with
  |none=>split<;>simp[ha,ih]
  |some v=>rw[h _ a (c0q a af) (by simp[ha])];simp[ha]
theorem e4f{i s:Nat}{r:R}:∀{l:List R},nth l i=some r→(∀j r',nth l j=some r'→(o r' s).isSome→(j<i→S j=true)∧(i≤j→S j=false))→
 gL o g0 S l s=gL o g0 a55 (pre l i) s
 | [],h,_=>by simp[nth]at h
 |a::af,h,hs=>by
  have lH:i≤af.length→gL o g0 S (a::af) s=gL o g0 S af s:=by
   intro hi;simp only[gL];split
   ·rename_i hS;cases ha:o a s with
    |none=>simp[ha]
    |some v=>rw[(hs _ a (c0q a af) (by simp[ha])).2 hi]at hS;cases hS
   ·rfl
  unfold nth at h;split at h
  ·rename_i hi;subst hi;rw[lH (f6l _)];simp only[pre,f9q];exact c7w (λj r' hj ho=>(hs j r' (b4v hj) ho).1 (b5z hj))
  ·rename_i hi;have:=b5z h;rw[lH (by omega)];simp only[pre,f4n hi];exact e4f h (λj r' hj ho=>hs j r' (b4v hj) ho)
theorem c1e{S':Nat→Bool}:∀{l:List R},(∀j,j<l.length→S j=S' j)→gL o g0 S l=gL o g0 S' l
 | [],_=>rfl
 |a::af,h=>by simp only[gL];rw[h af.length (by simp),c1e (l:=af) (λj hj=>h j (by simp;omega))]
theorem d40{i:Nat}{r:R}:∀{l:List R},nth l i=some r→S i=false→(∀k r',nth l k=some r'→i<k→S k=true→∀s,(o r s).isSome→o r' s=none)→
 gL o g0 (c2u S i) l=λs=>(o r s).getD (gL o g0 S l s)
 | [],h,_,_=>by simp[nth]at h
 |a::af,h,hS,hk=>by
  unfold nth at h;split at h
  ·rename_i hi;cases h;have:gL o g0 (c2u S i) af=gL o g0 S af:=c1e λj hj=>by simp[c2u];omega
   simp only[gL,this];subst hi;simp[c2u,hS]
  ·rename_i hi;have ah:=b5z h;have ih:=d40 h hS (λk r' hr=>hk k r' (b4v hr));simp only[gL,ih];have hp:c2u S i af.length=S af.length:=by simp[c2u];intro he;omega
   rw[hp];split
   ·rename_i vu
    funext s
    cases hr:o r s with
    |none=>simp
    |some v=>rw[hk _ a (c0q a af) ah vu s (by simp[hr])];simp
   ·rfl
end
/-! ### edges -/
def a99(all:List Oper)(S:Nat→Bool)(j:Nat):Prop:=∀o,all[j]?=some o→∀e∈o.after.toList,Region.binds .any e=true→S e.on=true
theorem b6i{all:List Oper}{S:Nat→Bool}(hS:∀j,S j=true→a99 all S j)(i:Nat):∀n j,a99 all S j→b20 all i n j=true→S i=true
 |0,j,_,h=>by simp[b20]at h
 |n+1,j,hj,h=>by
  unfold b20 at h;split at h
  ·rename_i o ho;simp only[g2f,d14,g0t,g0i]at h;obtain⟨e,he,hb,h⟩:=h;have m7:=hj o ho e he hb;rcases h with rfl|h
   ·exact m7
   ·exact b6i hS i n e.on (hS _ m7) h
  ·cases h
theorem b8r{all:List Oper}{S:Nat→Bool}(hS:∀j,S j=true→a99 all S j){i j:Nat}(hj:a99 all S j)(h:a5e all i j=true):S i=true:=by
 unfold a5e at h;rw[g0t]at h;rcases h with h|h
 ·unfold e1i at h;split at h
  ·rename_i o ho;simp only[g2f,d14,g0i]at h;obtain⟨e,he,hb,rfl⟩:=h;exact hj o ho e he hb
  ·cases h
 ·exact b6i hS i _ j hj h
theorem c35{all:List Oper}{j:Nat}{y:LogE}:∀{l:List LogE},logOk.logRow all j y l.length l=true→∀i x,nth l i=some x→x.clash y=true→a5e all i j=true
 | [],_,i,x,h,_=>by simp[nth]at h
 |a::af,hl,i,x,h,hc=>by
  simp only[e12,logOk.logRow,d14,g0t,f9y]at hl;unfold nth at h;split at h
  ·rename_i hi;cases h;subst hi;rcases hl.1 with h'|h'
   ·rw[hc]at h';cases h'
   ·exact h'
  ·exact c35 hl.2 i x h hc
theorem b4x{all:List Oper}:∀{l:List LogE},logOk all l.length l=true→∀i j x y,i<j→nth l i=some x→nth l j=some y→x.clash y=true→a5e all i j=true
 | [],_,i,j,x,y,_,h,_,_=>by simp[nth]at h
 |a::af,hl,i,j,x,y,bX,hi,hj,hc=>by
  simp only[e12,logOk,d14]at hl;unfold nth at hj;split at hj
  ·rename_i tc;cases hj;subst tc;unfold nth at hi;rw[f4n (by omega)]at hi;exact c35 hl.1 i x hi hc
  ·have:=b5z hj;unfold nth at hi;rw[f4n (by omega)]at hi;exact b4x hl.2 i j x y bX hi hj hc
/-! ### what is asked of a region's text -/
def b3x(l:List Operand):List Nat:=l.filterMap λ|.tmp t=>some t|_=>none
def looks(all:List Oper)(o:Oper):List Nat:=
 b3x o.op.operands.toList++(match o.guard with
  |some (g,_)=>(a3m all g).toList
  |none=>[])
def a71(all:List Oper)(x y:Oper):Bool:=
 (match x.dst with|some d=>(looks all y).contains d|none=>false) ||
 (match y.dst with|some d=>(looks all x).contains d|none=>false) ||
 (match x.dst,y.dst with|some d,some d'=>d==d'|_,_=>false)
def b75(all:List Oper)(j:Nat)(y:Oper):Nat→List Oper→Bool
 |_,[]=>true
 |i,x::r=>(Nat.ble j i || !(a71 all x y)||a5e all i j)&&b75 all j y (i+1) r
def b2b(all:List Oper):Nat→List Oper→Bool
 |_,[]=>true
 |j,y::r=>y.after.toList.all (λe=>!(Region.binds .any e)||Nat.blt e.on j)&&b75 all j y 0 all&&b2b all (j+1) r
def c86(all:List Oper):Bool:=b2b all 0 all
theorem b9n{all:List Oper}{j:Nat}{y:Oper}:∀{l:List Oper} {s:Nat},b75 all j y s l=true→∀i x,l[i]?=some x→s+i<j→a71 all x y=true→a5e all (s+i) j=true
 | [],s,_,i,x,h,_,_=>by simp at h
 |a::r,s,hl,0,x,h,bX,hm=>by
  simp only[b75,d14,g0t,f9y,g0h]at hl;simp only[f6n,Option.some.injEq]at h;subst h;rcases hl.1 with (h|h)|h
  ·omega
  ·rw[hm]at h;cases h
  ·exact h
 |a::r,s,hl,i+1,x,h,bX,hm=>by simp only[b75,d14]at hl;have:=b9n hl.2 i x (by simpa using h) (by omega) hm;rw[show s+(i+1)=s+1+i by omega];exact this
theorem b74{all:List Oper}:∀{l:List Oper} {s:Nat},b2b all s l=true→∀j y,l[j]?=some y→
 (∀e∈y.after.toList,Region.binds .any e=true→e.on<s+j)∧∀i x,all[i]?=some x→i<s+j→a71 all x y=true→a5e all i (s+j)=true
 | [],s,_,j,y,h=>by simp at h
 |a::r,s,hl,0,y,h=>by simp only[b2b,d14,f8c,g0t,f9y,f8f]at hl;simp only[f6n,Option.some.injEq]at h;subst h;refine⟨λe he hb=>(hl.1.1 e he).resolve_left (by simp[hb]),λi x hx hi hm=>?_⟩;have:=b9n hl.1.2 i x hx (by omega) hm;simpa using this
 |a::r,s,hl,j+1,y,h=>by simp only[b2b,d14]at hl;have:=b74 hl.2 j y (by simpa using h);rw[show s+(j+1)=s+1+j by omega];exact this
theorem b2c{all:List Oper}(h:c86 all=true){j:Nat}{y:Oper}(hy:all[j]?=some y) :
 (∀e∈y.after.toList,Region.binds .any e=true→e.on<j)∧∀i x,all[i]?=some x→i<j→a71 all x y=true→a5e all i j=true:=by
 have:=b74 h j y hy;simpa using this
end Go.Ax
/- AxDraw: a region that draws its order: one run in text order stands for a55 order. -/
namespace Go.Ax
theorem d5d{E:Env}{n n':Nat}{h:FHeap}{op:Op}{v:Operand→AV}{x:AV}{e:Eff}(ha:aop E n h op v=some (x,e))(he:e.fresh=false):aop E n' h op v=some (x,e):=by
 have app:∀st xt s y,a5p E h n st xt s y=some (x,e)→a5p E h n' st xt s y=some (x,e):=by
  intro st xt s y hy;unfold a5p at hy⊢;simp only[cond_eq_ite]at hy⊢
  repeat' split at hy
  all_goals first
   |(cases hy;done)
   |(cases hy;simp[Eff.fresh]at he;done)
   |(simp_all;done)
   |(simp_all;rename_i hh;exact hh.2)
 have r7:∀st xt s y,a4f E n st xt s y=some (x,e)→a4f E n' st xt s y=some (x,e):=by
  intro st xt s y hy;unfold a4f at hy⊢;simp only[cond_eq_ite]at hy⊢
  repeat' split at hy
  all_goals first
   |(cases hy;done)
   |(cases hy;simp[Eff.fresh]at he;done)
   |(simp_all;done)
 have blt:∀b ts args,e08 E n h b ts args=some (x,e)→e08 E n' h b ts args=some (x,e):=by
  intro b ts args hb;unfold e08 at hb⊢;split at hb
  all_goals first
   |exact hb
   |exact app _ _ _ _ hb
   |(rcases b12 hb with hb|hb<;>first|(rw[app _ _ _ _ hb];rfl)|(rw[c6s hb n' h,r7 _ _ _ _ hb];rfl))
 cases op
 case alloc t=>
  simp only[aop,e5z,cond_eq_ite]at ha
  repeat' split at ha
  all_goals cases ha
  simp[Eff.fresh]at he
 case box t y=>
  simp only[aop,e6b,cond_eq_ite]at ha
  repeat' split at ha
  all_goals cases ha
  all_goals simp[Eff.fresh]at he
 case buildSlice=>
  simp only[aop,a47,cond_eq_ite]at ha
  repeat' split at ha
  all_goals cases ha
  all_goals simp[Eff.fresh]at he
 case makeMap=>
  simp only[aop]at ha
  repeat' split at ha
  all_goals cases ha
  all_goals simp[Eff.fresh]at he
 case makeSlice=>
  simp only[aop,a51,cond_eq_ite]at ha
  repeat' split at ha
  all_goals cases ha
  all_goals simp[Eff.fresh]at he
 case range=>
  simp only[aop]at ha;rcases b12 ha with ha|ha
  ·simp only[b4h]at ha
   repeat' split at ha
   all_goals cases ha
   all_goals simp[Eff.fresh]at he
  ·simp only[b3u,cond_eq_ite]at ha
   repeat' split at ha
   all_goals cases ha
   all_goals simp[Eff.fresh]at he
 case call c=>
  obtain⟨callee,args,ts⟩:=c;cases callee with
  |builtin b=>exact blt _ _ _ ha
  |_=>cases ha
 all_goals exact ha
structure Rec where
 dst:Option Nat
 v:AV
 ov:Nat→Option (Option AObj)
 fresh:Nat
 log:LogE
def fov(r:Rec)(s:Nat):Option AV:=if r.dst=some s then some r.v else none
def hov(r:Rec)(b:Nat):Option (Option AObj):=r.ov b
def cnt(m0:Nat):List Rec→Nat
 | []=>m0
 |r::af=>cnt m0 af+r.fresh
def c7h(m0:Nat)(S:Nat→Bool):List Rec→Nat→Prop
 | [],_=>False
 |r::af,b=>(S af.length=true∧cnt m0 af≤b∧b<cnt m0 af+r.fresh)∨c7h m0 S af b
theorem c5q{m0:Nat}{S:Nat→Bool}:∀{l:List Rec} {b:Nat},c7h m0 S l b→b<cnt m0 l
 | [],b,h=>h.elim
 |r::af,b,h=>by
  simp only[cnt];rcases h with ⟨_,_,h⟩|h
  ·exact h
  ·have:=c5q h;omega
theorem d4y{m0:Nat}{i:Nat}{r:Rec}:∀{l:List Rec},nth l i=some r→cnt m0 (pre l i)+r.fresh≤cnt m0 l
 | [],h=>by simp[nth]at h
 |a::af,h=>by
  unfold nth at h;simp only[pre,cnt];split at h
  ·rename_i hi;cases h;rw[f6e hi];omega
  ·rename_i hi;have:=d4y (m0:=m0) h;rw[f4n hi];omega
theorem d2s{m0:Nat}{S:Nat→Bool}{i:Nat}{r:Rec}{b:Nat}:∀{l:List Rec},nth l i=some r→cnt m0 (pre l i)≤b→b<cnt m0 (pre l i)+r.fresh→c7h m0 S l b→S i=true
 | [],h,_,_,_=>by simp[nth]at h
 |a::af,h,h1,h2,hm=>by
  unfold nth at h;split at h
  ·rename_i hi;cases h;simp only[pre,f6e hi]at h1 h2;rcases hm with ⟨hS,_⟩|hm
   ·rw[hi];exact hS
   ·have:=c5q hm;omega
  ·rename_i hi;simp only[pre,f4n hi]at h1 h2;have:=d4y (m0:=m0) h;rcases hm with ⟨_,tf,_⟩|hm
   ·omega
   ·exact d2s h h1 h2 hm
theorem c33{m0:Nat}{S:Nat→Bool}{i:Nat}{r:Rec}{b:Nat}:∀{l:List Rec},nth l i=some r→(c7h m0 S l b∨(cnt m0 (pre l i)≤b∧b<cnt m0 (pre l i)+r.fresh))→c7h m0 (c2u S i) l b
 | [],h,_=>by simp[nth]at h
 |a::af,h,hb=>by
  have mono:∀{l:List Rec},c7h m0 S l b→c7h m0 (c2u S i) l b:=by
   intro l
   induction l with
   |nil=>exact λh=>h
   |cons a af ih=>exact λh=>h.imp (λ⟨h1,h2⟩=>⟨by simp[c2u,h1],h2⟩) ih
  unfold nth at h;rcases hb with hb|⟨da,eK⟩
  ·exact mono hb
  ·split at h
   ·rename_i hi;cases h;simp only[pre,f6e hi]at da eK;exact .inl ⟨by simp[c2u,hi],da,eK⟩
   ·rename_i hi;simp only[pre,f4n hi]at da eK;exact .inr (c33 h (.inr ⟨da,eK⟩))
structure DNow(E:Env)(e:Entry)(N m0:Nat)(C:Nat→Prop)(f:Nat→AV)(h:FHeap)(I:Nat→Prop)(ρ:PMap)(a:Act)(w:World):Prop where
 imm:∀c,e.I c→I c
 map:∀b,b<e.m→ρ b=e.ρ b
 ext:Ext e.I e.K e.w w
 rel:HRel E.G I e.K ρ h w
 nrel:∀b,m0≤b→¬C b→ρ b=none
 fin:∃M,NRel ρ M
 size:a.tmps.size=N
 frm:∀s,VRel I w ρ (f s) (a.tmps.getD s undef)
 marks:Marks e I w a.defers
def opvf(E:Env)(f:Nat→AV):Operand→AV
 |.tmp t=>f t
 |.const v=>c88 v
 |.global g=>match E.G g with|some cs=>.iptr cs|none=>.junk
 |.func f=>.func (.func f) [] []
section
variable {E:Env}{e:Entry}{N m0:Nat}{C:Nat→Prop}{f:Nat→AV}{h:FHeap}{I:Nat→Prop}{ρ:PMap}{a:Act}{w:World}
theorem DNow.opvf(d:DNow E e N m0 C f h I ρ a w)(x:Operand):VRel I w ρ (opvf E f x) (a.eval x):=by
 cases x with
 |tmp t=>exact d.frm t
 |const v=>exact c46 v
 |global g=>
  simp only[Ax.opvf,Act.eval];cases hg:E.G g with
  |none=>simp[VRel]
  |some cs=>obtain⟨h1,h2⟩:=d.rel.glob g cs hg;simp only[VRel];exact⟨g,0,rfl,h1,h2⟩
 |func f=>simp only[Ax.opvf,Act.eval,VRel];exact⟨#[],#[],rfl,by simp[VRels],by simp[VRels]⟩
theorem c9g{t:Nat}{l:List Operand}(h:Operand.tmp t∈l):t∈b3x l:=by simp only[b3x,List.mem_filterMap];exact⟨_,h,rfl⟩
theorem b5y{F:Frm}{l:List Operand}(hf:∀s∈b3x l,f s=a34 F s):∀x∈l,opv E F x=opvf E f x:=by
 intro x hx;cases x with
 |tmp t=>exact(hf t (c9g hx)).symm
 |_=>rfl
theorem b33{I':Nat→Prop}{w':World}{ρ':PMap}(hv:∀(v:AV) (c:Value),VRel I w ρ v c→VRel I' w' ρ' v c)(bU:a.tmps.size=N)(hf:∀s,VRel I w ρ (f s) (a.tmps.getD s undef)){d:Option Nat}
 (hd:a8f N d=true){v:AV}{c:Value}(hc:VRel I' w' ρ' v c):∀s,VRel I' w' ρ' ((if d=some s then some v else none).getD (f s)) ((a.put d c).tmps.getD s undef):=by
 intro s;cases d with
 |none=>simpa[Act.put]using hv _ _ (hf s)
 |some d=>
  have ah:d<N:=by simpa[a8f,f8f]using hd
  simp only[Act.put,f8i,f9d,bU,Option.some.injEq];split
  ·subst s;simpa[ah]using hc
  ·have:=hv _ _ (hf s);simpa[f8i]using this
theorem b0f{d:Option Nat}{c:Value}:(a.put d c).tmps.size=a.tmps.size:=by cases d<;>simp[Act.put]
def d0x(n:Nat):Eff→Nat→Option (Option AObj)
 |.none,_=>none
 |.new o,b=>if b=n then some (some o)else none
 |.set b0 o,b=>if b=b0 then some (some o)else none
 |.kill b0 o,b=>if b=n then some (some o)else if b=b0 then some none else none
theorem e9l(h:FHeap)(n:Nat)(e:Eff):h.eff n e=λb=>(d0x n e b).getD (h b):=by
 funext b
 cases e<;>simp only[FHeap.eff,FHeap.set,d0x]
 ·rfl
 ·split<;>rfl
 ·split<;>rfl
 ·split
  ·rfl
  ·split<;>rfl
theorem e4w{H:a03}{e:Eff}(hf:e.fits H.length=true):a01 (b1i H e)=λb=>(d0x H.length e b).getD (a01 H b):=by
 funext b
 cases e with
 |none=>rfl
 |new o=>
  simp only[b1i,a01,d0x];split
  ·subst b;simp
  ·rcases g04 b H.length with h1|h1
   ·rw[f6d h1];rfl
   ·rw[f6h (by simp;omega),f6h (by omega)];rfl
 |set b1 o=>
  have da:b1<H.length:=by simpa[Eff.fits,f8f]using hf
  simp only[b1i,a01,d0x,f6k];split
  ·subst b;simp[da]
  ·rename_i aF;rw[f4n (λe=>aF e.symm)];rfl
 |kill b1 o=>
  have da:b1<H.length:=by simpa[Eff.fits,f8f]using hf
  simp only[b1i,a01,d0x];split
  ·subst b;rw[f8k (by simp)];simp
  ·rcases g04 b H.length with h1|h1
   ·rw[f6d (by simpa using h1),f6k];split
    ·rename_i aF;subst aF;simp[da]
    ·rename_i aF mg;rw[f4n (λe=>mg e.symm)];rfl
   ·rw[f6h (by simp;omega),f4n (by omega),f6h h1];rfl
theorem d2e{n b:Nat}{e:Eff}(h:(d0x n e b).isSome=true):b∈e.keys n:=by
 cases e<;>simp only[d0x]at h
 ·simp at h
 ·split at h
  ·subst b;simp[Eff.keys]
  ·simp at h
 ·split at h
  ·subst b;simp[Eff.keys]
  ·simp at h
 ·split at h
  ·subst b;simp[Eff.keys]
  ·split at h
   ·subst b;simp[Eff.keys]
   ·simp at h
end
end Go.Ax
/- AxDraw2: one operation of a region that draws its order. -/
namespace Go.Ax
section
variable {E:Env}{e:Entry}{N m0:Nat}
theorem b3y{hp iv:FHeap}{σ:List Nat}(h:∀b∈σ,hp b=iv b):a70 hp σ=a70 iv σ:=by unfold a70;exact f8e λb hb=>by rw[h b hb]
def c22(E:Env)(ro:Option Nat)(e:Entry)(N m0 n:Nat)(o:Oper)(fp:Nat→AV)(hp:FHeap)(v:AV)(ov:Nat→Option (Option AObj))(fresh:Nat)(l:LogE):Prop:=
 ∀{C:Nat→Prop} {f:Nat→AV} {h:FHeap} {I:Nat→Prop} {ρ:PMap} {a:Act} {w:World},DNow E e N m0 C f h I ρ a w→(∀s∈b3x o.op.operands.toList,f s=fp s)→(∀b∈l.needs,h b=hp b)→(∀b,n≤b→b<n+fresh→¬C b)→
  ∀{K:Act→World→Prop} {Q:Exit→Act→World→Prop},(∀I' ρ' a' w',DNow E e N m0 (λb=>C b∨(n≤b∧b<n+fresh)) (λs=>((if o.dst=some s then some v else none).getD (f s))) (λb=>(ov b).getD (h b)) I' ρ' a' w'→K a' w')→
   o.wpIn (wf ro) 0 E.P a w K Q
def _root_.Go.Ax.Eff.nf(e:Eff):Nat:=if e.fresh=true then 1 else 0
theorem d9v(ok:EnvOk E){ro:Option Nat}{F:Frm}{H:a03}{o:Oper}{v:AV}{eff:Eff}(cN:e.m≤m0)(dc:m0≤H.length)(hd:a8f N o.dst=true)(ha:aop E H.length (a01 H) o.op (opv E F)=some (v,eff)) :
 c22 E ro e N m0 H.length o (a34 F) (a01 H) v (d0x H.length eff) eff.nf ⟨a9e o.op (opv E F),eff.keys H.length⟩:=by
 intro C f h I ρ a w aj hf hh hC K Q hK;have d7:=b5y (E:=E) hf;have ot:∀x∈o.op.operands,opv E F x=opvf E f x:=λx hx=>d7 x (by simpa using hx);have pO:aop E H.length h o.op (opvf E f)=some (v,eff):=by rw[←d5f ot,d5e (h':=a01 H) hh];exact ha
 obtain⟨M,hM⟩:=aj.fin;obtain⟨n',bH,hρ',rK⟩:∃n',(eff.fresh=true→n'=H.length)∧ρ n'=none∧aop E n' h o.op (opvf E f)=some (v,eff):=by
  cases gK:eff.fresh with
  |true=>exact⟨H.length,λ_=>rfl,aj.nrel _ dc (hC _ (f6l _) (by simp[Eff.nf,gK])),pO⟩
  |false=>exact⟨M,(by simp),hM _ (f6l _),d5d pO gK⟩
 have dP:h n'=none:=by
  cases hx:h n' with
  |none=>rfl
  |some ob=>obtain⟨m,h1,_⟩:=aj.rel.live _ _ hx;rw[hρ']at h1;cases h1
 obtain⟨x,w',c,ρ',ae,hx,step,hv,hm⟩:=e1r ok aj.rel dP hρ' rK aj.opvf;have hov:h.eff n' eff=λb=>(d0x H.length eff b).getD (h b):=by
  rw[e9l];cases gK:eff.fresh with
  |true=>rw[bH gK]
  |false=>cases eff<;>simp[Eff.fresh]at gK<;>rfl
 have ia:∀b,(eff.fresh=true→b≠H.length)→ρ' b=ρ b:=by
  intro b hb;cases gK:eff.fresh with
  |true=>exact hm.1 b (by rw[bH gK];exact hb gK)
  |false=>rw[hm.2 gK]
 have bf:DNow E e N m0 (λb=>C b∨(H.length≤b∧b<H.length+eff.nf)) (λs=>((if o.dst=some s then some v else none).getD (f s))) (λb=>(d0x H.length eff b).getD (h b)) I ρ' (a.put o.dst c) w':=by
  refine⟨aj.imm,λb hb=>?_,aj.ext.trans aj.imm step.ext,hov▸step.rel,λb hb hc=>?_,⟨max M (H.length+1),λb hb=>?_⟩,by rw[b0f];exact aj.size,?_,by rw[a3q];exact aj.marks.mono (λ_ h=>h) (λc hc=>step.ext.keep c (.inl hc))⟩
  ·rw[ia b (λ_=>by omega)];exact aj.map b hb
  ·rw[ia b (λhf he=>hc (.inr (by simp only[Eff.nf,hf,f9q];omega)))];exact aj.nrel b hb (λh=>hc (.inl h))
  ·rw[ia b (λ_=>by omega)];exact hM b (by omega)
  ·exact b33 (λv c hv=>step.vrel hv) aj.size aj.frm hd hv
 refine a9h (b7n ha) ?_;rw[ae];rcases hx with rfl|⟨rfl,rfl⟩
 ·rw[Oper.uponIn_value];exact hK I ρ' _ _ bf
 ·rw[Oper.uponIn_skip];exact hK I ρ' _ _ bf
theorem d53{g:FuncId}{run:List AV→a03→Option (AV×a03)}(ae:b1g E g run){args:List AV}{H H':a03}{v:AV}{σ:List Nat}
 (ak:a3j run args H=some (v,H',σ))(ai:H'.length=H.length) :
 ∃ov:Nat→Option (Option AObj),(a01 H'=λb=>(ov b).getD (a01 H b))∧(∀b,(ov b).isSome=true→b∈σ)∧
  ∀{I K:Nat→Prop} {ρ:PMap} {h:FHeap} {w:World} {ap:List Value},HRel E.G I K ρ h w→(∀b∈σ,h b=a01 H b)→VRels I w ρ args ap→
   XOf E g ap w λen w'=>∃c I',en = .returned c∧(∀c,I c→I' c)∧Ext I K w w'∧HRel E.G I' K ρ (λb=>(ov b).getD (h b)) w'∧VRel I' w' ρ v c:=by
 unfold a3j at ak;simp only at ak;generalize hσ:a3g H a6f (a0l args) []=σ' at ak;rw[cond_eq_ite]at ak;split at ak
 case isFalse=>cases ak
 rename_i hc;simp only[d14,f8c,f8f]at hc;obtain⟨bQ,ah⟩:=hc;have bQ:=b0h bQ;split at ak
 case h_2=>cases ak
 rename_i v1 H1 hr;simp only[Option.some.injEq,Prod.mk.injEq]at ak;obtain⟨rfl,rfl,rfl⟩:=ak;have jG:run (args.map (ren (b0m σ'))) (a70 (a01 H) σ')=some (v1,H1):=hr;have nr:H1.length≤σ'.length:=by simp only[f5z,a1b,f4j,List.length_drop]at ai;omega
 refine⟨λb=>(σ'.idxOf? b).map λj=>(a01 H1 j).map (a0t (a1w σ' H.length)),?_,?_,?_⟩
 ·funext b
  simp only[a01];rcases g04 b H.length with hb|hb
  ·rw[f6d (by rw[a1b];exact hb),a8q];simp only[f8j];rw[z9e hb];cases hx:σ'.idxOf? b<;>simp[a01]
  ·rw[f6h (by simp only[f5z,a1b,f4j,List.length_drop];omega),f6h hb];cases hx:σ'.idxOf? b with
   |none=>rfl
   |some j=>have:=ah b (c11 (a2t hx));omega
 ·intro b hb;dsimp only at hb;cases hx:σ'.idxOf? b with
  |none=>rw[hx]at hb;simp at hb
  |some j=>exact c11 (a2t hx)
 ·intro I K ρ h w ap rel hh ha;have eW:run (args.map (ren (b0m σ'))) (a70 h σ')=some (v1,H1):=by rw[b3y hh];exact jG
  refine XOf.mono (c1r ae eW rel bQ ha) ?_
  rintro en w' ⟨c,I1,ρ1,rfl,aB,hv⟩
  have cI:∀j b m,a1w σ' H.length j=some b→ρ1 j=some m→ρ b=some m:=by
   intro j b m hj hm;rcases g04 j σ'.length with aS|aS
   ·simp only[a1w]at hj;rw[cond_eq_ite,f6e (by simpa[f8f]using aS)]at hj;have:=aB.map j aS;rw[hm,hj]at this;exact this.symm
   ·rw[aB.nrel j (by omega)]at hm;cases hm
  refine⟨c,I1,rfl,aB.imm,aB.ext.keepLess (λc hc=>.inl hc),?_,VRel.ren cI v1 hv⟩;refine c1t rel bQ aB (λ_ _ h=>h) cI (λb m hb=>.inl hb) ?_;intro b o hb;dsimp only at hb;cases hx:σ'.idxOf? b with
  |none=>rw[hx]at hb;exact .inl ⟨b3c hx,hb⟩
  |some j=>rw[hx]at hb;simp only[f5x,f9l]at hb;obtain⟨o1,dX,rfl⟩:=a08 hb;have hσj:=a2t hx;refine .inr ⟨j,o1,?_,dX,rfl⟩;simp only[a1w];rw[cond_eq_ite,f6e (by simpa[f8f]using(c13.1 hσj).1)];exact hσj
theorem d9n{g:FuncId}{run:List AV→a03→Option (AV×a03)}(ae:b1g E g run){args:List AV}{H H':a03}{v:AV}{σ:List Nat}
 (ak:a3j run args H=some (v,H',σ)){q:Nat}(ai:H'.length=H.length+q) :
 ∃ov:Nat→Option (Option AObj),(a01 H'=λb=>(ov b).getD (a01 H b))∧(∀b,(ov b).isSome=true→b∈σ++List.range' H.length q)∧
  ∀{I K:Nat→Prop} {ρ:PMap} {h:FHeap} {w:World} {ap:List Value},HRel E.G I K ρ h w→(∀b,H.length≤b→b<H.length+q→ρ b=none)→(∀b∈σ,h b=a01 H b)→VRels I w ρ args ap→
   XOf E g ap w λen w'=>∃c I' ρ',en = .returned c∧(∀c,I c→I' c)∧Ext I K w w'∧(∀b,¬(H.length≤b∧b<H.length+q)→ρ' b=ρ b)∧HRel E.G I' K ρ' (λb=>(ov b).getD (h b)) w'∧VRel I' w' ρ' v c:=by
 unfold a3j at ak;simp only at ak;generalize hσ:a3g H a6f (a0l args) []=σ' at ak;rw[cond_eq_ite]at ak;split at ak
 case isFalse=>cases ak
 rename_i hc;simp only[d14,f8c,f8f]at hc;obtain⟨bQ,ah⟩:=hc;have bQ:=b0h bQ;split at ak
 case h_2=>cases ak
 rename_i v1 H1 hr;simp only[Option.some.injEq,Prod.mk.injEq]at ak;obtain⟨rfl,rfl,rfl⟩:=ak;have jG:run (args.map (ren (b0m σ'))) (a70 (a01 H) σ')=some (v1,H1):=hr;have nr:H1.length-σ'.length=q:=by simp only[f5z,a1b,f4j,List.length_drop]at ai;omega
 refine⟨λb=>if H.length≤b∧b<H.length+q then some ((a01 H1 (σ'.length+(b-H.length))).map (a0t (a1w σ' H.length)))else(σ'.idxOf? b).map λj=>(a01 H1 j).map (a0t (a1w σ' H.length)),?_,?_,?_⟩
 ·funext b
  simp only[a01];rcases g04 b H.length with hb|hb
  ·rw[f6d (by rw[a1b];exact hb),a8q,f4n (by omega)];simp only[f8j];rw[z9e hb];cases hx:σ'.idxOf? b<;>simp[a01]
  ·rw[f8k (by rw[a1b];exact hb),a1b,f4q,g1s];by_cases he:b<H.length+q
   ·rw[f6e ⟨hb,he⟩];cases hx:H1[σ'.length+(b-H.length)]? with
    |none=>simp[hx]
    |some ob=>simp[hx]
   ·rw[f4n (by omega),f6h (by omega),f6h hb];cases hx:σ'.idxOf? b with
    |none=>rfl
    |some j=>have:=ah b (c11 (a2t hx));omega
 ·intro b hb;dsimp only at hb;by_cases he:H.length≤b∧b<H.length+q
  ·exact List.mem_append_right _ (by rw[List.mem_range'_1];exact he)
  ·rw[f4n he]at hb;cases hx:σ'.idxOf? b with
   |none=>rw[hx]at hb;simp at hb
   |some j=>exact List.mem_append_left _ (c11 (a2t hx))
 ·intro I K ρ h w ap rel hn hh ha;have eW:run (args.map (ren (b0m σ'))) (a70 h σ')=some (v1,H1):=by rw[b3y hh];exact jG
  refine XOf.mono (c1r ae eW rel bQ ha) ?_
  rintro en w' ⟨c,I1,ρ1,rfl,aB,hv⟩
  have cN:=aB.low;have cI:∀j b m,a1w σ' H.length j=some b→ρ1 j=some m→(if H.length≤b∧b<H.length+q then ρ1 (σ'.length+(b-H.length))else ρ b)=some m:=by
   intro j b m hj hm;simp only[a1w]at hj;rw[cond_eq_ite]at hj;split at hj
   ·rename_i aS;have aS:j<σ'.length:=by simpa[f8f]using aS
    have hb:=ah b (c11 hj);rw[f4n (by omega)];have:=aB.map j aS;rw[hm,hj]at this;exact this.symm
   ·rename_i aS;have aS:σ'.length≤j:=by simpa[f8f]using aS
    cases hj;by_cases he:j-σ'.length<q
    ·rw[f6e (by omega),show σ'.length+(H.length+(j-σ'.length)-H.length)=j by omega];exact hm
    ·rw[aB.nrel j (by omega)]at hm;cases hm
  have aT:∀b m,ρ b=some m→(if H.length≤b∧b<H.length+q then ρ1 (σ'.length+(b-H.length))else ρ b)=some m:=by intro b m hb;rw[f4n (λe=>by rw[hn b e.1 e.2]at hb;cases hb)];exact hb
  refine⟨c,I1,λb=>if H.length≤b∧b<H.length+q then ρ1 (σ'.length+(b-H.length))else ρ b,rfl,aB.imm,aB.ext.keepLess (λc hc=>.inl hc),λb hb=>f4n hb,?_,VRel.ren cI v1 hv⟩;refine c1t rel bQ aB aT cI ?_ ?_
  ·intro b m hb;split at hb
   ·exact .inr ⟨_,hb⟩
   ·exact .inl hb
  intro b o hb;dsimp only at hb;by_cases he:H.length≤b∧b<H.length+q
  ·rw[f6e he,f9l]at hb;obtain⟨o1,dX,rfl⟩:=a08 hb;refine .inr ⟨σ'.length+(b-H.length),o1,?_,dX,rfl⟩;simp only[a1w];rw[cond_eq_ite,f4n (by simp[f8f])]
   congr 1;omega
  rw[f4n he]at hb;cases hx:σ'.idxOf? b with
  |none=>rw[hx]at hb;exact .inl ⟨b3c hx,hb⟩
  |some j=>rw[hx]at hb;simp only[f5x,f9l]at hb;obtain⟨o1,dX,rfl⟩:=a08 hb;have hσj:=a2t hx;refine .inr ⟨j,o1,?_,dX,rfl⟩;simp only[a1w];rw[cond_eq_ite,f6e (by simpa[f8f]using(c13.1 hσj).1)];exact hσj
theorem d1l(ok:EnvOk E){ro:Option Nat}{call:FuncId→List AV→a03→Option (AV×a03)}(ak:a4w E call){F:Frm}{H H':a03}{o:Oper}{v:AV}{l:LogE}(cN:e.m≤m0)(dc:m0≤H.length)
 (hs:a0w E true call F H o.op=some (v,H',l))(hd:a8f N o.dst=true) :
 ∃ov fresh,(a01 H'=λb=>(ov b).getD (a01 H b))∧H'.length=H.length+fresh∧(∀b,(ov b).isSome=true→b∈l.keys)∧c22 E ro e N m0 H.length o (a34 F) (a01 H) v ov fresh l:=by
 unfold a0w at hs;split at hs
 ·rename_i f args pm du;split at hs
  case h_2=>cases hs
  rename_i v' H1 σ a7;cases hs
  -- what is called,in whatever state
  have tail:∀(g:FuncId) (as:List AV),a3j (call g) as H=some (v,H',σ)→(H.length≤H'.length)→(a7o E (opv E F f) H H' σ=true→∀b∈σ,a01 H b=a01 H' b)→
   (∀{C:Nat→Prop} {f':Nat→AV} {h:FHeap} {I:Nat→Prop} {ρ:PMap} {a:Act} {w:World},DNow E e N m0 C f' h I ρ a w→(∀s∈b3x o.op.operands.toList,f' s=a34 F s)→
    ∃ap,VRels I w ρ as ap∧∀{R:Ending→World→Prop},XOf E g ap w R→∀{K:Act→World→Prop} {Q:Exit→Act→World→Prop},(∀en w',R en w'→∃c,en = .returned c∧K (a.put o.dst c) w')→o.wpIn (wf ro) 0 E.P a w K Q)→
   ∃ov fresh,(a01 H'=λb=>(ov b).getD (a01 H b))∧H'.length=H.length+fresh∧(∀b,(ov b).isSome=true→b∈b7z (a7o E (opv E F f) H H' σ) σ H.length H'.length)∧
    c22 E ro e N m0 H.length o (a34 F) (a01 H) v ov fresh ⟨σ,b7z (a7o E (opv E F f) H H' σ) σ H.length H'.length⟩:=by
   intro g as eB ai qE T;by_cases bf:H'.length≠H.length
   ·have hq:H'.length=H.length+(H'.length-H.length):=by omega
    generalize H'.length-H.length=q at hq;have hk:b7z (a7o E (opv E F f) H H' σ) σ H.length H'.length=σ++List.range' H.length q:=by unfold b7z;rw[cond_eq_ite,f4n (by rw[g2e];omega),show H'.length-H.length=q by omega]
    obtain⟨ov,h1,h2,h3⟩:=d9n (ak g) eB hq;refine⟨ov,q,h1,hq,by rw[hk];exact h2,?_⟩;intro C f' h I ρ a w aj hf hh hC K Q hK;obtain⟨ap,aL,tr⟩:=T aj hf;have dP:∀b,H.length≤b→b<H.length+q→ρ b=none:=λb h1 h2=>aj.nrel b (by omega) (hC b h1 h2);refine tr (h3 aj.rel dP hh aL) ?_
    rintro en w' ⟨c,I',ρ',rfl,hI,cq,hρ',bP,dh⟩
    refine⟨c,rfl,?_⟩;obtain⟨M,hM⟩:=aj.fin;have aT:∀b m,ρ b=some m→ρ' b=some m:=by intro b m hb;rw[hρ' b (λe=>by rw[dP b e.1 e.2]at hb;cases hb)];exact hb
    refine hK I' ρ' _ _ ⟨λc hc=>hI c (aj.imm c hc),λb hb=>?_,aj.ext.trans aj.imm cq,bP,λb hb hc=>?_,⟨max M (H.length+q),λb hb=>?_⟩,by rw[b0f];exact aj.size,?_,by rw[a3q];exact aj.marks.mono hI (λc hc=>cq.keep c (.inl hc))⟩
    ·rw[hρ' b (by omega)];exact aj.map b hb
    ·rw[hρ' b (λe=>hc (.inr e))];exact aj.nrel b hb (λh=>hc (.inl h))
    ·rw[hρ' b (by omega)];exact hM b (by omega)
    ·exact b33 (λv c hv=>VRel.mono hI (λc hc=>cq.keep c (.inl hc)) v aT hv) aj.size aj.frm hd dh
   have ai:H'.length=H.length:=Classical.not_not.1 bf;have hk:b7z (a7o E (opv E F f) H H' σ) σ H.length H'.length=(bif a7o E (opv E F f) H H' σ then[]else σ):=by unfold b7z;rw[ai,cond_eq_ite,f6e (by rw[g2e])]
   rw[hk];obtain⟨ov,h1,h2,h3⟩:=d53 (ak g) eB ai;obtain⟨ov,h1,h2,h3⟩:∃ov:Nat→Option (Option AObj),(a01 H'=λb=>(ov b).getD (a01 H b))∧(∀b,(ov b).isSome=true→b∈(bif a7o E (opv E F f) H H' σ then[]else σ))∧
    ∀{I K:Nat→Prop} {ρ:PMap} {h:FHeap} {w:World} {ap:List Value},HRel E.G I K ρ h w→(∀b∈σ,h b=a01 H b)→VRels I w ρ as ap→
     XOf E g ap w λen w'=>∃c I',en = .returned c∧(∀c,I c→I' c)∧Ext I K w w'∧HRel E.G I' K ρ (λb=>(ov b).getD (h b)) w'∧VRel I' w' ρ v c:=by
    cases kA:a7o E (opv E F f) H H' σ with
    |false=>exact⟨ov,h1,h2,h3⟩
    |true=>
     have cF:∀b∈σ,a01 H b=a01 H' b:=qE kA;have dv:∀b x,ov b=some x→x=a01 H b:=by intro b x hx;have e1:=cF b (h2 b (by rw[hx];rfl));rw[h1]at e1;simp only[hx,f9l]at e1;exact e1.symm
     refine⟨λ_=>none,?_,λb hb=>by simp at hb,?_⟩
     ·rw[h1];funext b
      cases hx:ov b with
      |none=>rfl
      |some x=>simp only[f9l,Option.getD_none];exact dv b x hx
     ·intro I K ρ h w ap bP hh ha;have e:(λb=>(ov b).getD (h b))=h:=by
       funext b
       cases hx:ov b with
       |none=>rfl
       |some x=>simp only[f9l];rw[dv b x hx,hh b (h2 b (by rw[hx];rfl))]
      refine XOf.mono (h3 bP hh ha) ?_
      rintro en w' ⟨c,I',r1,r2,r3,r4,r5⟩
      rw[e]at r4;exact⟨c,I',r1,r2,r3,by simpa using r4,r5⟩
   refine⟨ov,0,h1,ai,h2,?_⟩;intro C f' h I ρ a w aj hf hh hC K Q hK;obtain⟨ap,aL,tr⟩:=T aj hf;refine tr (h3 aj.rel hh aL) ?_
   rintro en w' ⟨c,I',rfl,hI,cq,bP,dh⟩
   refine⟨c,rfl,?_⟩;refine hK I' ρ _ _ ⟨λc hc=>hI c (aj.imm c hc),aj.map,aj.ext.trans aj.imm cq,bP,λb hb hc=>aj.nrel b hb (λh=>hc (.inl h)),aj.fin,by rw[b0f];exact aj.size,?_,by rw[a3q];exact aj.marks.mono hI (λc hc=>cq.keep c (.inl hc))⟩;exact b33 (λv c hv=>VRel.mono hI (λc hc=>cq.keep c (.inl hc)) v (λ_ _ h=>h) hv) aj.size aj.frm hd dh
  have nM:¬((true && !(Nat.ble H.length H'.length))=true)→H.length≤H'.length:=by intro h;simpa only[f9p,f9y,Bool.not_eq_false,g0h]using h
  unfold a0b at a7;split at a7
  case h_3=>cases a7
  case h_2=>
   rename_i b iE;split at a7
   case h_2=>cases a7
   rename_i nA H2 σ2 eB;rw[cond_eq_ite]at a7;split at a7
   case isTrue=>cases a7
   rename_i ai;cases a7;refine tail yId _ eB (nM ai) (λh=>by rw[iE]at h;simp[a7o]at h) ?_;intro C f' h I ρ a w aj hf;have d7:=b5y (E:=E) hf;rw[du]at d7;have kO:=aj.opvf f;rw[←d7 f (by simp[Op.operands,Call.operands]),iE]at kO;simp only[VRel]at kO;obtain⟨m,hm,eS⟩:=kO;have aL:args.toList.map (opv E F)=args.toList.map (opvf E f'):=f8e λx hx=>d7 x (by simp[Op.operands,Call.operands];exact .inr (by simpa using hx));refine⟨.func (.yield m.blk) #[] #[]::(args.map a.eval).toList,?_,?_⟩
   ·simp only[VRels];refine⟨_,_,rfl,by simp only[VRel];exact⟨m,hm,rfl⟩,?_⟩;rw[g0n,aL];exact a6a aj.opvf args.toList
   ·intro R hc K Q hK;rw[e6g]at hc;obtain⟨l,vs,fn,tmps,asg,body,he,hy,hr⟩:=hc;simp only[List.cons.injEq,Value.func.injEq,Fn.yield.injEq,and_true]at he;obtain⟨hl,rfl⟩:=he;have bF:(args.map a.eval).toList.toArray=args.map a.eval:=by apply g15;simp
    rw[bF]at hy;refine a9h (by rw[du];intro c hc;cases hc) ?_;rw[b9i du eS,hl,hy];refine b89 (hr.mono ?_);intro en w' hR;obtain⟨c,rfl,hk⟩:=hK en w' hR;exact hk
  rename_i g fs cs iE
  -- the operands in another state
  have j8:∀{C:Nat→Prop} {f':Nat→AV} {h:FHeap} {I:Nat→Prop} {ρ:PMap} {a:Act} {w:World},DNow E e N m0 C f' h I ρ a w→(∀s∈b3x o.op.operands.toList,f' s=a34 F s)→
   ∃cR aO,a.eval f = .func (.func g) cR aO∧VRels I w ρ (fs++args.toList.map (opv E F)++cs) (cR++args.map a.eval++aO).toList:=by
   intro C f' h I ρ a w aj hf;have d7:=b5y (E:=E) hf;rw[du]at d7;have kO:=aj.opvf f;rw[←d7 f (by simp[Op.operands,Call.operands]),iE]at kO;simp only[VRel]at kO;obtain⟨cR,aO,eS,gJ,eJ⟩:=kO;have aL:args.toList.map (opv E F)=args.toList.map (opvf E f'):=f8e λx hx=>d7 x (by simp[Op.operands,Call.operands];exact .inr (by simpa using hx));refine⟨cR,aO,eS,?_⟩;simp only[Array.toList_append,g0n];rw[aL];exact VRels.append (VRels.append gJ (a6a aj.opvf args.toList)) eJ
  rw[cond_eq_ite]at a7;split at a7
  ·rename_i cq;rw[cond_eq_ite]at a7;split at a7
   ·rename_i hg;obtain⟨hH,hσ,au,v0,H1,e1,e2,e3,e4⟩:=b6e a7;subst hH;refine⟨λ_=>none,0,rfl,rfl,by simp,?_⟩;intro C f' h I ρ a w aj hf hh hC K Q hK;obtain⟨cR,aO,eS,aL⟩:=j8 aj hf;have aV:∀b o,a01 H' b=some o→h b=some o:=by
     intro b o hb;have ah:b<H'.length:=by
      rcases g04 b H'.length with h'|h'
      ·exact h'
      ·simp[a01,f6h h']at hb
     rw[hh b (by rw[hσ];exact g0y.2 ah)];exact hb
    have hc:=c3a (ak g) aV aj.rel aL e1 e2 e3 e4;obtain⟨i,hi⟩:=f4k.1 hg;rw[b4i (c9w ok hi)]at hc;have bF:(cR++args.map a.eval++aO).toList.toArray=cR++args.map a.eval++aO:=by apply g15;simp
    rw[bF]at hc;refine a9h (by rw[du];intro c hc;cases hc) ?_;rw[b27 du eS,a4r ok hg];refine b09 (Calls.mono hc ?_)
    rintro en w' ⟨c,I',rfl,hI,jX,bP,dh⟩
    refine hK I' ρ _ _ ⟨λc hc=>hI c (aj.imm c hc),aj.map,aj.ext.trans aj.imm jX,bP,λb hb hc=>aj.nrel b hb (λh=>hc (.inl h)),aj.fin,by rw[b0f];exact aj.size,?_,by rw[a3q];exact aj.marks.mono hI (λc hc=>jX.keep c (.inl hc))⟩;exact b33 (λv c hv=>VRel.mono hI (λc hc=>jX.keep c (.inl hc)) v (λ_ _ h=>h) hv) aj.size aj.frm hd dh
   rename_i cj;split at a7
   case h_2=>cases a7
   rename_i nA l3;cases a7;refine⟨λ_=>none,0,rfl,rfl,by simp,?_⟩;intro C f' h I ρ a w aj hf hh hC K Q hK;obtain⟨cR,aO,eS,aL⟩:=j8 aj hf;obtain⟨c,ae,dh⟩:=b4f (E:=E) (w:=w) ok cq (by simpa using cj) l3 aL;have bF:(cR++args.map a.eval++aO).toList.toArray=cR++args.map a.eval++aO:=by apply g15;simp
   rw[bF]at ae;refine a9h (by rw[du];intro c hc;cases hc) ?_;rw[b27 du eS,ae,Oper.uponIn_value];refine hK I ρ _ _ ⟨aj.imm,aj.map,aj.ext,aj.rel,λb hb hc=>aj.nrel b hb (λh=>hc (.inl h)),aj.fin,by rw[b0f];exact aj.size,?_,by rw[a3q];exact aj.marks⟩;exact b33 (λ_ _ h=>h) aj.size aj.frm hd dh
  ·rw[cond_eq_ite]at a7;split at a7
   case isFalse=>cases a7
   rename_i hg;split at a7
   case h_2=>cases a7
   rename_i nA H2 σ2 eB;rw[cond_eq_ite]at a7;split at a7
   case isTrue=>cases a7
   rename_i ai;cases a7;refine tail g _ eB (nM ai) ?_ ?_
   ·intro kA;rw[iE]at kA;simp only[a7o,d14,f8c]at kA;exact λb hb=>c72 _ _ (kA.2 b hb)
   intro C f' h I ρ a w aj hf;obtain⟨cR,aO,eS,aL⟩:=j8 aj hf;refine⟨_,aL,?_⟩;intro R hc K Q hK;obtain⟨i,hi⟩:=f4k.1 hg;rw[b4i (c9w ok hi)]at hc;have bF:(cR++args.map a.eval++aO).toList.toArray=cR++args.map a.eval++aO:=by apply g15;simp
   rw[bF]at hc;refine a9h (by rw[du];intro c hc;cases hc) ?_;rw[b27 du eS,a4r ok hg];refine b09 (Calls.mono hc ?_);intro en w' hR;obtain⟨c,rfl,hk⟩:=hK en w' hR;exact hk
 ·split at hs
  case h_2=>cases hs
  rename_i v' eff ha;rw[cond_eq_ite]at hs;split at hs
  case isFalse=>cases hs
  rename_i bY;cases hs;refine⟨d0x H.length eff,eff.nf,e4w bY,?_,λb hb=>d2e hb,d9v ok cN dc hd ha⟩;rw[b1b];unfold Eff.nf;split<;>rfl
end
end Go.Ax
/- AxDraw3: the whole of a region that draws its order. -/
namespace Go.Ax
section
variable {E:Env}{e:Entry}{N m0:Nat}{al:Array Oper}{Q:Exit→Act→World→Prop}{f0:Nat→AV}{h0:FHeap}
structure RecOk(E:Env)(ro:Option Nat)(e:Entry)(N m0:Nat)(al:Array Oper)(Q:Exit→Act→World→Prop)(f0:Nat→AV)(h0:FHeap)(p:List Rec)(i:Nat)(r:Rec):Prop where
 dst:∀o,al[i]?=some o→r.dst=o.dst
 keys:∀b,(r.ov b).isSome=true→b∈r.log.keys
 good:∀{C:Nat→Prop} {f:Nat→AV} {h:FHeap} {I:Nat→Prop} {ρ:PMap} {a:Act} {w:World},DNow E e N m0 C f h I ρ a w→(∀o,al[i]?=some o→∀s∈looks al.toList o,f s=gL fov f0 a55 p s)→
  (∀b∈r.log.needs,h b=gL hov h0 a55 p b)→(∀b,cnt m0 p≤b→b<cnt m0 p+r.fresh→¬C b)→
  ∀{K:Act→World→Prop},(∀I' ρ' a' w',DNow E e N m0 (λb=>C b∨(cnt m0 p≤b∧b<cnt m0 p+r.fresh)) (λs=>(fov r s).getD (f s)) (λb=>(hov r b).getD (h b)) I' ρ' a' w'→K a' w')→wpOpIn (wf ro) 0 E.P al Q i K a w
def RecsOk(E:Env)(ro:Option Nat)(e:Entry)(N m0:Nat)(al:Array Oper)(Q:Exit→Act→World→Prop)(f0:Nat→AV)(h0:FHeap)(aK:List Rec):Prop:=∀i r,nth aK i=some r→RecOk E ro e N m0 al Q f0 h0 (pre aK i) i r
theorem RecsOk.cons{ro:Option Nat}{aK:List Rec}{r:Rec}(h:RecsOk E ro e N m0 al Q f0 h0 aK)(hr:RecOk E ro e N m0 al Q f0 h0 aK aK.length r):RecsOk E ro e N m0 al Q f0 h0 (r::aK):=by
 intro i r' hi;unfold nth at hi;simp only[pre];split at hi
 ·rename_i he;cases hi;rw[f6e he,he];exact hr
 ·rename_i he;rw[f4n he];exact h i r' hi
theorem c8a:∀{l:List Rec},m0≤cnt m0 l
 | []=>f6l _
 |r::af=>by have:=c8a (l:=af);simp only[cnt];omega
theorem c6u{I:Nat→Prop}{w:World}{ρ:PMap}{a:Act}{v:AV}{j d:Nat}(hg:a3m al.toList j=some d)(hv:VRel I w ρ v (a.tmps.getD d undef)) :
 (∀b,v = .bool b→yielded al a.tmps j=some b)∧(v = .tuple []→yielded al a.tmps j=none):=by
 have hd:(al[j]?).bind (·.dst)=some d:=by simpa[a3m]using hg
 have aI:∀c,a.tmps.getD d undef=c→c≠undef→a.tmps[d]?=some c:=by
  intro c hc aF;rw[f8i]at hc;cases hx:a.tmps[d]? with
  |none=>rw[hx]at hc;exact absurd hc.symm aF
  |some x=>rw[hx]at hc;simpa using hc
 refine⟨λb hb=>?_,λhb=>?_⟩
 ·rw[hb]at hv;simp only[VRel]at hv;have:=aI _ hv (by simp[undef]);simp[yielded,hd,this]
 ·rw[hb]at hv;simp only[VRel]at hv;obtain⟨cs,hc,eJ⟩:=hv;unfold yielded;rw[hd];simp only[g08];rw[f8i]at hc;cases hx:a.tmps[d]? with
  |none=>rfl
  |some x=>rw[hx]at hc;simp only[f9l]at hc;rw[hc]
theorem d2x{o:Oper}{s:Nat}(h:s∈b3x o.op.operands.toList):s∈looks al.toList o:=List.mem_append_left _ h
theorem c5r{o:Oper}{j d:Nat}{bI:Bool}(hg:o.guard=some (j,bI))(hs:a3m al.toList j=some d):d∈looks al.toList o:=by simp[looks,hg,hs]
theorem b0y(ok:EnvOk E){ro:Option Nat}{call:FuncId→List AV→a03→Option (AV×a03)}(ak:a4w E call)(cN:e.m≤m0){R:Type}{k:Frm→a03→Option R}{r:R} :
 ∀(af:List Oper) (aK:List Rec) (F:Frm) (H:a03),af=al.toList.drop aK.length→aK.length+af.length=al.size→a34 F=gL fov f0 a55 aK→a01 H=gL hov h0 a55 aK→H.length=cnt m0 aK→
  RecsOk E ro e N m0 al Q f0 h0 aK→a2z E true N call al.toList af (aK.map (·.log)) F H k=some r→
  ∃bl F' H',bl.length=al.size∧a34 F'=gL fov f0 a55 bl∧a01 H'=gL hov h0 a55 bl∧H'.length=cnt m0 bl∧RecsOk E ro e N m0 al Q f0 h0 bl∧
   logOk al.toList (bl.map (·.log)).length (bl.map (·.log))=true∧k F' H'=some r
 | [],aK,F,H,_,ai,hF,hH,hn,dN,ae=>by
  simp only[a2z,g17,Bool.false_or]at ae;rw[cond_eq_ite]at ae;split at ae
  case isFalse=>cases ae
  rename_i jO;exact⟨aK,F,H,by simpa using ai,hF,hH,hn,dN,jO,ae⟩
 |o::af,aK,F,H,cX,ai,hF,hH,hn,dN,ae=>by
  have ho:al[aK.length]?=some o:=by
   have:(al.toList.drop aK.length)[0]?=some o:=by rw[←cX];rfl
   rw[g1s]at this;simpa using this
  have fI:af=al.toList.drop (aK.length+1):=by
   have:(al.toList.drop aK.length).drop 1=af:=by rw[←cX];rfl
   rw[List.drop_drop]at this;exact this.symm
  unfold a2z at ae;rw[cond_eq_ite]at ae;split at ae
  case isFalse=>cases ae
  rename_i hd;simp only[e12]at ai
  -- a step that is executed,and one that is not
  have exec:∀F0,a34 F0=a34 F→(match a0w E true call F0 H o.op with
   |some (v,H',l)=>a2z E true N call al.toList af (l::aK.map (·.log)) (a4i F0 o.dst v) H' k
   |none=>none)=some r→
   (∀{I:Nat→Prop} {w:World} {ρ:PMap} {a:Act} {f:Nat→AV},(∀s∈looks al.toList o,f s=gL fov f0 a55 aK s)→(∀s,VRel I w ρ (f s) (a.tmps.getD s undef))→Region.wanted o (yielded al a.tmps)=true)→
   ∃bl F' H',bl.length=al.size∧a34 F'=gL fov f0 a55 bl∧a01 H'=gL hov h0 a55 bl∧H'.length=cnt m0 bl∧RecsOk E ro e N m0 al Q f0 h0 bl∧
    logOk al.toList (bl.map (·.log)).length (bl.map (·.log))=true∧k F' H'=some r:=by
   intro F0 pW hr hw;split at hr
   case h_2=>cases hr
   rename_i v H' l hs;obtain⟨ov,fresh,h1,h2,h3,h4⟩:=d1l (ro:=ro) (e:=e) (N:=N) (m0:=m0) ok ak cN (by rw[hn];exact c8a) hs hd;refine b0y ok ak cN af (⟨o.dst,v,ov,fresh,l⟩::aK) (a4i F0 o.dst v) H' (by simpa using fI) (by simp only[e12];omega) ?_ ?_ ?_ (dN.cons ?_) hr
   ·simp only[gL,a55,f9q];rw[←hF,←pW]
    funext s
    cases mE:o.dst with
    |none=>simp[a4i,fov]
    |some d=>rw[b01];simp only[fov,Option.some.injEq];split<;>rfl
   ·simp only[gL,a55,f9q];rw[←hH];exact h1
   ·simp only[cnt];rw[←hn];exact h2
   ·refine⟨λo' d8=>by rw[ho]at d8;cases d8;rfl,h3,?_⟩;intro C f h I ρ a w aj hf hh hC K hK;have hf:=hf o ho;unfold wpOpIn;simp only[ho];rw[f6e (hw hf aj.frm)];refine(h4 aj (λs hs=>by rw[hf s (d2x hs),pW,hF]) (λb hb=>by rw[hh b hb,hH]) (by rw[hn];exact hC) ?_);rw[hn];exact hK
  have skip:∀F0,a34 F0=a34 F→a2z E true N call al.toList af (⟨[],[]⟩::aK.map (·.log)) (a4i F0 o.dst (.tuple [])) H k=some r→
   (∀{I:Nat→Prop} {w:World} {ρ:PMap} {a:Act} {f:Nat→AV},(∀s∈looks al.toList o,f s=gL fov f0 a55 aK s)→(∀s,VRel I w ρ (f s) (a.tmps.getD s undef))→Region.wanted o (yielded al a.tmps)=false)→
   ∃bl F' H',bl.length=al.size∧a34 F'=gL fov f0 a55 bl∧a01 H'=gL hov h0 a55 bl∧H'.length=cnt m0 bl∧RecsOk E ro e N m0 al Q f0 h0 bl∧
    logOk al.toList (bl.map (·.log)).length (bl.map (·.log))=true∧k F' H'=some r:=by
   intro F0 pW hr hw;refine b0y ok ak cN af (⟨o.dst,.tuple [],λ_=>none,0,⟨[],[]⟩⟩::aK) (a4i F0 o.dst (.tuple [])) H (by simpa using fI) (by simp only[e12];omega) ?_ ?_ ?_ (dN.cons ?_) hr
   ·simp only[gL,a55,f9q];rw[←hF,←pW]
    funext s
    cases mE:o.dst with
    |none=>simp[a4i,fov]
    |some d=>rw[b01];simp only[fov,Option.some.injEq];split<;>rfl
   ·simp only[gL,a55,f9q];rw[←hH];rfl
   ·simp only[cnt];exact hn
   ·refine⟨λo' d8=>by rw[ho]at d8;cases d8;rfl,by simp,?_⟩;intro C f h I ρ a w aj hf hh hC K hK;have hf:=hf o ho;unfold wpOpIn;simp only[ho];rw[f4n (by rw[hw hf aj.frm];simp)];refine⟨λf _=>e24 ro f,?_⟩;refine hK I ρ _ _ ⟨aj.imm,aj.map,aj.ext,aj.rel,λb hb hc=>aj.nrel b hb (λh=>hc (.inl h)),aj.fin,by rw[b0f];exact aj.size,?_,by rw[a3q];exact aj.marks⟩;exact b33 (λ_ _ h=>h) aj.size aj.frm hd (by simp only[VRel,undef];exact⟨#[],rfl,by simp[VRels]⟩)
  split at ae
  ·rename_i hg;exact exec F rfl ae (λ_ _=>by simp[Region.wanted,hg])
  ·rename_i j bI hg;split at ae
   case h_1=>cases ae
   rename_i d oL;have gO:=c5r (o:=o) hg oL;split at ae
   ·rename_i b hb;have hw:∀{I:Nat→Prop} {w:World} {ρ:PMap} {a:Act} {f:Nat→AV},(∀s∈looks al.toList o,f s=gL fov f0 a55 aK s)→(∀s,VRel I w ρ (f s) (a.tmps.getD s undef))→Region.wanted o (yielded al a.tmps)=(b==bI):=by
     intro I w ρ a f hf hv;have jV:f d = .bool b:=by rw[hf d gO,←hF,hb]
     have:=(c6u oL (hv d)).1 b jV;simp[Region.wanted,hg,this]
    have bi:a34 (a4i F (some d) (.bool b))=a34 F:=by
     funext s
     rw[b01];split
     ·rename_i hs;rw[←hs,hb]
     ·rfl
    cases b
    ·simp only[f7z]at ae;cases bI
     ·simp only[f7z]at ae;exact exec _ bi ae (λhf hv=>by rw[hw hf hv];rfl)
     ·simp only[f6g]at ae;exact skip _ bi ae (λhf hv=>by rw[hw hf hv];rfl)
    ·simp only[f6g]at ae;cases bI
     ·simp only[f7z]at ae;exact skip _ bi ae (λhf hv=>by rw[hw hf hv];rfl)
     ·simp only[f6g]at ae;exact exec _ bi ae (λhf hv=>by rw[hw hf hv];rfl)
   ·rename_i hb;refine skip F rfl ae (λ{I w ρ a f} hf hv=>?_);have jV:f d = .tuple []:=by rw[hf d gO,←hF,hb]
    have:=(c6u oL (hv d)).2 jV;simp[Region.wanted,hg,this]
   ·cases ae
theorem a5x{aK:List Rec}:∀{i:Nat} {r:Rec},nth aK i=some r→nth (aK.map (·.log)) i=some r.log:=by
 induction aK with
 |nil=>intro i r h;simp[nth]at h
 |cons a af ih=>
  intro i r h;unfold nth at h;simp only[c10,nth,f4j];split at h
  ·rename_i hi;cases h;rw[f6e hi]
  ·rename_i hi;rw[f4n hi];exact ih h
theorem b63{a b:List Nat}{x:Nat}(h1:x∈a)(h2:x∈b):b64 a b=true:=by simp only[b64,g2f,a3i];exact⟨x,h1,h2⟩
theorem DNow.weaken{C C':Nat→Prop}{f:Nat→AV}{h:FHeap}{I:Nat→Prop}{ρ:PMap}{a:Act}{w:World}(d:DNow E e N m0 C f h I ρ a w)(hC:∀b,C b→C' b):DNow E e N m0 C' f h I ρ a w:={ d with nrel:=λb hb hc=>d.nrel b hb (λh=>hc (hC b h)) }
theorem b8v{S:Nat→Bool}{b:Nat}:∀{l:List Rec},c7h m0 S l b→c7h m0 a55 l b
 | [],h=>h
 |_::_,h=>h.imp (λ⟨_,h2⟩=>⟨rfl,h2⟩) b8v
theorem d90{ro:Option Nat}(az:c86 al.toList=true){aK:List Rec}(ai:aK.length=al.size)(dN:RecsOk E ro e N m0 al Q f0 h0 aK)(jO:logOk al.toList (aK.map (·.log)).length (aK.map (·.log))=true)
 (hQ:∀I ρ a w,DNow E e N m0 (c7h m0 a55 aK) (gL fov f0 a55 aK) (gL hov h0 a55 aK) I ρ a w→Q .normal a w) :
 ∀(bj:Nat) (aw:Array Bool) (I:Nat→Prop) (ρ:PMap) (a:Act) (w:World),aw.size=al.size→((List.range al.size).filter λi=>!aw.getD i false).length≤bj→
  (∀j,aw.getD j false=true→a99 al.toList (λi=>aw.getD i false) j)→
  DNow E e N m0 (c7h m0 (λi=>aw.getD i false) aK) (gL fov f0 (λi=>aw.getD i false) aK) (gL hov h0 (λi=>aw.getD i false) aK) I ρ a w→
  wpAnyIn (wf ro) 0 E.P .any al Q bj aw a w:=by
 have done:∀(aw:Array Bool) (I:Nat→Prop) (ρ:PMap) (a:Act) (w:World),(∀i,i<al.size→aw.getD i false=true)→
  DNow E e N m0 (c7h m0 (λi=>aw.getD i false) aK) (gL fov f0 (λi=>aw.getD i false) aK) (gL hov h0 (λi=>aw.getD i false) aK) I ρ a w→Q .normal a w:=by
  intro aw I ρ a w bd aj;have cF:∀j,j<aK.length→(λi=>aw.getD i false) j=a55 j:=λj hj=>by rw[ai]at hj;exact bd j hj
  rw[c1e cF,c1e cF]at aj;exact hQ I ρ a w (aj.weaken λb=>b8v)
 intro bj
 induction bj with
 |zero=>
  intro aw I ρ a w bU mI cD aj;have bd:∀i,i<al.size→aw.getD i false=true:=by
   intro i hi;cases hx:aw.getD i false with
   |true=>rfl
   |false=>
    have:i∈(List.range al.size).filter λi=>!aw.getD i false:=by rw[f9s,g0y];exact⟨hi,by rw[hx];rfl⟩
    have:=List.length_pos_of_mem this;omega
  have gZ:Region.ready .any al aw=[]:=by
   cases hr:Region.ready .any al aw with
   |nil=>rfl
   |cons i af=>
    have:i∈Region.ready .any al aw:=by rw[hr];simp
    obtain⟨h1,o,h2,_⟩:=mem_ready.1 this;have hi:=(f8m.1 h2).1;have:=bd i hi;simp only[f8i,Array.getElem?_eq_getElem (show i<aw.size by omega),f9l]at h1 this;rw[this]at h1;cases h1
  exact⟨gZ,done aw I ρ a w bd aj⟩
 |succ bj ih=>
  intro aw I ρ a w bU mI cD aj;refine⟨λgZ=>done aw I ρ a w ?_ aj,λi hi=>?_⟩
  ·intro i
   induction i using Nat.strongRecOn with
   |_ i ihi=>
    intro hi;cases hx:aw.getD i false with
    |true=>rfl
    |false=>
     exfalso;have cz:i∈Region.ready .any al aw:=by
      refine mem_ready.2 ⟨?_,al[i],by simp[hi],λe he hb=>?_⟩
      ·simpa only[f8i,Array.getElem?_eq_getElem (show i<aw.size by omega),f9l]using hx
      ·have:=(b2c az (j:=i) (y:=al[i]) (by simp[hi])).1 e (by simpa using he) hb;exact ihi e.on this (by omega)
     rw[gZ]at cz;cases cz
  ·obtain⟨h1,o,ho,mD⟩:=mem_ready.1 hi;have i5:=(f8m.1 ho).1;have bW:al.toList[i]?=some o:=by simpa using ho
   generalize hS:(λi=>aw.getD i false)=S at cD aj;have kT:S i=false:=by rw[←hS];simp only[f8i,Array.getElem?_eq_getElem (show i<aw.size by omega),f9l]at h1⊢;exact h1
   have kR:∀j,S j=true→a99 al.toList S j:=by intro j hj;rw[←hS]at hj;exact cD j hj
   have oW:a99 al.toList S i:=by intro o' d8 e he hb;rw[bW]at d8;cases d8;rw[←hS];exact mD e (by simpa using he) hb
   obtain⟨r,hr⟩:=c7c (l:=aK) (i:=i) (by omega);have md:=dN i r hr;have nE:∀j r',nth aK j=some r'→∃o',al.toList[j]?=some o'∧r'.dst=o'.dst:=by
    intro j r' hj;have aS:=b5z hj;have:al[j]?=some al[j]:=by simp
    exact⟨al[j],by simp,(dN j r' hj).dst _ this⟩
   have bL:∀j,a5e al.toList j i=true→S j=true:=λj h=>b8r kR oW h;have after:∀j,a5e al.toList i j=true→S j=false:=by
    intro j h;cases hx:S j with
    |false=>rfl
    |true=>rw[b8r kR (kR j hx) h]at kT;cases kT
   refine md.good aj ?_ ?_ ?_ ?_
   ·intro o' d8 s hs;rw[ho]at d8;cases d8;refine e4f hr λj r' hj hd=>?_;obtain⟨oj,sT,vg⟩:=nE j r' hj;have mF:oj.dst=some s:=by
     rw[←vg];unfold fov at hd;split at hd
     ·assumption
     ·simp at hd
    refine⟨λiC=>bL j ?_,λbX=>?_⟩
    ·refine(b2c az bW).2 j oj sT iC ?_;simp only[a71,mF,g0t,g0w];exact .inl (.inl hs)
    ·rcases Nat.lt_or_eq_of_le bX with ah|rfl
     ·refine after j ((b2c az sT).2 i o bW ah ?_);simp only[a71,mF,g0t,g0w];exact .inl (.inr hs)
     ·exact kT
   ·intro b hb;refine e4f hr λj r' hj hd=>?_;have cA:=(dN j r' hj).keys b hd;refine⟨λiC=>bL j ?_,λbX=>?_⟩
    ·refine b4x jO j i _ _ iC (a5x hj) (a5x hr) ?_;simp only[LogE.clash,b63 cA hb,Bool.true_or]
    ·rcases Nat.lt_or_eq_of_le bX with ah|rfl
     ·refine after j (b4x jO i j _ _ ah (a5x hr) (a5x hj) ?_);simp only[LogE.clash,b63 hb cA,Bool.or_true]
     ·exact kT
   ·intro b da eK hm;rw[d2s hr da eK hm]at kT;cases kT
   ·intro I' ρ' a' w' oy;have pR:(λj=>(aw.setIfInBounds i true).getD j false)=c2u S i:=by
     funext j
     rw[←hS];simp only[c2u,f8i,f9d];by_cases bX:i=j
     ·subst bX;simp[show i<aw.size by omega]
     ·rw[f4n bX,f9i.2 (f9m bX),Bool.false_or]
    refine ih _ I' ρ' a' w' (by simpa using bU) ?_ ?_ ?_
    ·have rq:((List.range al.size).filter λj=>!(aw.setIfInBounds i true).getD j false)=((List.range al.size).filter λj=>!aw.getD j false).filter λj=>!(j==i):=by
      rw[List.filter_filter];refine List.filter_congr λj _=>?_;have h1:=congrFun pR j;have h2:=congrFun hS j;rw[h1,h2];simp[c2u]
     rw[rq];have:(((List.range al.size).filter λj=>!aw.getD j false).filter λj=>!(j==i)).length<((List.range al.size).filter λj=>!aw.getD j false).length:=by refine List.length_filter_lt_length_iff_exists.2 ⟨i,?_,by simp⟩;rw[f9s,g0y];refine⟨i5,?_⟩;have h2:=congrFun hS i;rw[h2,kT];rfl
     omega
    ·rw[pR];have ly:∀j,a99 al.toList S j→a99 al.toList (c2u S i) j:=λj h o ho e he hb=>by simp[c2u,h o ho e he hb]
     intro j hj;have hj:c2u S i j=true:=by rw[←pR];exact hj
     simp only[c2u,g0t,g0i]at hj;rcases hj with rfl|hj
     ·exact ly _ oW
     ·exact ly _ (kR j hj)
    ·rw[pR];rw[d40 hr kT ?_,d40 hr kT ?_]
     ·exact oy.weaken λb hb=>c33 hr hb
     ·intro k r' hk kj rN s hs;cases hx:hov r' s with
      |none=>rfl
      |some ob=>have h1:=md.keys s hs;have h2:=(dN k r' hk).keys s (by unfold hov at hx;rw[hx];rfl);have:=after k (b4x jO i k _ _ kj (a5x hr) (a5x hk) (by simp only[LogE.clash,b63 h1 h2,Bool.or_true,Bool.true_or]));rw[rN]at this;cases this
     ·intro k r' hk kj rN s hs;cases hx:fov r' s with
      |none=>rfl
      |some v=>
       obtain⟨ok,uK,ve⟩:=nE k r' hk;have h1:o.dst=some s:=by
        rw[←md.dst o ho];unfold fov at hs;split at hs
        ·assumption
        ·simp at hs
       have h2:ok.dst=some s:=by
        rw[←ve];unfold fov at hx;split at hx
        ·assumption
        ·cases hx
       have:=after k ((b2c az uK).2 i o bW kj (by simp[a71,h1,h2]));rw[rN]at this;cases this
theorem c5d(ok:EnvOk E){ro:Option Nat}{call:FuncId→List AV→a03→Option (AV×a03)}(ak:a4w E call){R:Type}{k:Frm→a03→Option R}{r:R}{F:Frm}{H:a03}{I:Nat→Prop}{ρ:PMap}{a:Act}{w:World}
 (az:c86 al.toList=true)(hQ:∀F H I ρ a w,Now E e N F H I ρ a w→k F H=some r→Q .normal a w)(aj:Now E e N F H I ρ a w)(ae:a2z E true N call al.toList al.toList [] F H k=some r)(id:Nat) :
 (Code.region id al true).wpIn (wf ro) 0 E.P Q a w:=by
 refine wpIn_region_any ok.mixed ?_;obtain⟨aK,F',H',h1,h2,h3,h4,h5,h6,h7⟩:=b0y (ro:=ro) (e:=e) (N:=N) (m0:=H.length) (Q:=Q) (f0:=a34 F) (h0:=a01 H) ok ak aj.low al.toList [] F H (by simp) (by simp) rfl rfl rfl (λi r h=>by simp[nth]at h) ae;have jW:∀i,(Array.replicate al.size false).getD i false=false:=by intro i;simp only[f8i,Array.getElem?_replicate];split<;>rfl
 have dP:∀{V:Type} (o:Rec→Nat→Option V) (g0:Nat→V) (l:List Rec),gL o g0 (λi=>(Array.replicate al.size false).getD i false) l=g0:=by
  intro V o g0 l
  induction l with
  |nil=>rfl
  |cons a af ih=>unfold gL;rw[f4n (by rw[jW];simp)];exact ih
 refine d90 az h1 h5 h6 ?_ al.size _ I ρ a _ (by simp) ?_ ?_ ?_
 ·intro I' ρ' a' w' hd;refine hQ F' H' I' ρ' a' w' ⟨hd.imm,hd.map,hd.ext,?_,?_,⟨hd.size,λs=>by rw[h2];exact hd.frm s⟩,?_,hd.marks⟩ h7
  ·rw[h3];exact hd.rel
  ·intro b hb;have tf:H.length≤cnt H.length aK:=c8a;refine hd.nrel b (by omega) (λhm=>?_);have:=c5q hm;omega
  ·have tf:H.length≤cnt H.length aK:=c8a;have:=aj.low;omega
 ·refine g1v (f9x _ _) (by simp)
 ·intro j hj;have:=jW j;rw[this]at hj;cases hj
 ·have dU:=aj.drew;rw[dP,dP];exact⟨dU.imm,dU.map,dU.ext,dU.rel,λb hb _=>dU.nrel b hb,⟨_,dU.nrel⟩,dU.frm.1,dU.frm.2,dU.marks⟩
end
end Go.Ax
/- AxMark: what a loop over a function leaves behind: blocks for deferred calls, shut when the function ends. -/
namespace Go.Ax
section
variable {I:Nat→Prop}{w w':World}
def SameD(w w':World)(c:Nat):Prop:=w'.heap[c]?=w.heap[c]?∨∃d,w.heap[c]?=some (.deferred d)
theorem SameD.map{c:Nat}{es:Array MapEntry}{cl:Nat}(h:SameD w w' c)(hc:w.heap[c]?=some (.map es cl)):w'.heap[c]?=some (.map es cl):=by
 rcases h with h|⟨d,h⟩
 ·rw[h,hc]
 ·rw[hc]at h;cases h
theorem SameD.cell{b o:Nat}{c:Value}(h:SameD w w' b)(hc:w.cell? ⟨b,o,none⟩=some c):w'.cell? ⟨b,o,none⟩=some c:=by
 rcases h with h|⟨d,h⟩
 ·rw[b7e h,hc]
 ·simp[World.cell?,h]at hc
mutual
theorem VRel.monoD(hw:∀c,I c→SameD w w' c):∀{ρ:PMap} (v:AV) {c:Value},VRel I w ρ v c→VRel I w' ρ v c
 |ρ,v,c,h=>by
  cases v with
  |junk=>simp[VRel]
  |bool b=>simpa[VRel]using h
  |int k n=>simpa[VRel]using h
  |str s=>simpa[VRel]using h
  |nilptr=>simpa[VRel]using h
  |nilslice=>simpa[VRel]using h
  |nilmap=>simpa[VRel]using h
  |nilfunc=>simpa[VRel]using h
  |nilifc=>simpa[VRel]using h
  |ptr b i o=>simpa only[VRel]using h
  |iptr cs=>simp only[VRel]at h⊢;obtain⟨b,off,rfl,hb,h⟩:=h;exact⟨b,off,rfl,hb,VAt.monoD hw cs (hw _ hb) h⟩
  |slice b off len cap=>simpa only[VRel]using h
  |islice aa cap=>
   simp only[VRel]at h⊢;obtain⟨a,n,k,rfl,h1,h2,h3⟩:=h;refine⟨a,n,k,rfl,h1,h2,h3.imp id ?_⟩
   rintro⟨hs,hb,h⟩
   exact⟨hs,hb,VRows.monoD hw aa (hw _ hb) h⟩
  |map b=>simpa only[VRel]using h
  |imap ks vs bs bv=>simp only[VRel]at h⊢;obtain⟨b,es,rfl,hb,he,h1,h2,h3⟩:=h;exact⟨b,es,rfl,hb,(hw _ hb).map he,VRels.monoD hw ks h1,VRels.monoD hw vs h2,h3⟩
  |iset ks=>simp only[VRel]at h⊢;obtain⟨b,es,cl,rfl,hb,he,h1⟩:=h;exact⟨b,es,cl,rfl,hb,(hw _ hb).map he,h1⟩
  |yfn b=>simpa only[VRel]using h
  |func fn fs cs=>simp only[VRel]at h⊢;obtain⟨cR,aO,rfl,h1,h2⟩:=h;exact⟨cR,aO,rfl,VRels.monoD hw fs h1,VRels.monoD hw cs h2⟩
  |iface t x=>simp only[VRel]at h⊢;obtain⟨x',rfl,h⟩:=h;exact⟨x',rfl,VRel.monoD hw x h⟩
  |agg cs=>simp only[VRel]at h⊢;obtain⟨aO,rfl,h⟩:=h;exact⟨aO,rfl,VRels.monoD hw cs h⟩
  |tuple cs=>simp only[VRel]at h⊢;obtain⟨aO,rfl,h⟩:=h;exact⟨aO,rfl,VRels.monoD hw cs h⟩
theorem VRels.monoD(hw:∀c,I c→SameD w w' c):∀{ρ:PMap} (vs:List AV) {cs:List Value},VRels I w ρ vs cs→VRels I w' ρ vs cs
 |ρ,[],cs,h=>by simpa[VRels]using h
 |ρ,v::vs,cs,h=>by simp only[VRels]at h⊢;obtain⟨c,aO,rfl,h1,h2⟩:=h;exact⟨c,aO,rfl,VRel.monoD hw v h1,VRels.monoD hw vs h2⟩
theorem VAt.monoD(hw:∀c,I c→SameD w w' c):∀{ρ:PMap} (vs:List AV) {b off:Nat},SameD w w' b→VAt I w ρ vs b off→VAt I w' ρ vs b off
 |ρ,[],b,off,hb,h=>by simp[VAt]
 |ρ,v::vs,b,off,hb,h=>by simp only[VAt]at h⊢;obtain⟨⟨c,hc,h1⟩,h2⟩:=h;exact⟨⟨c,hb.cell hc,VRel.monoD hw v h1⟩,VAt.monoD hw vs hb h2⟩
theorem VRows.monoD{k:Nat}(hw:∀c,I c→SameD w w' c):∀{ρ:PMap} (rs:List (List AV)) {b off:Nat},SameD w w' b→VRows I w k ρ rs b off→VRows I w' k ρ rs b off
 |ρ,[],b,off,hb,h=>by simp[VRows]
 |ρ,r::rs,b,off,hb,h=>by simp only[VRows]at h⊢;obtain⟨h0,h1,h2⟩:=h;exact⟨h0,VAt.monoD hw r hb h1,VRows.monoD hw rs hb h2⟩
end
theorem ORel.monoD{G:GTab (List AV)}{ρ:PMap}{m:Pl}(hw:∀c,I c→SameD w w' c)(o:AObj)(hb:w'.heap[m.blk]?=w.heap[m.blk]?)(h:ORel G I w ρ m o):ORel G I w' ρ m o:=by
 cases o with
 |row k aa=>obtain⟨h1,h2,⟨cL,e,h3,h4⟩,h5⟩:=h;exact⟨h1,h2,⟨cL,e,by rw[hb,h3],h4⟩,VRows.monoD hw aa (.inl hb) h5⟩
 |map ks vs bs bv=>obtain⟨es,h1,h2,h3,h4⟩:=h;exact⟨es,by rw[hb,h1],VRels.monoD hw ks h2,VRels.monoD hw vs h3,h4⟩
 |siter s pos=>obtain⟨h0,t,h1,h2⟩:=h;exact⟨h0,t,by rw[hb,h1],h2⟩
 |uset ks=>obtain⟨es,cl,h1,h2⟩:=h;exact⟨es,cl,by rw[hb,h1],h2⟩
 |miter ks b9 bT=>
  obtain⟨h0,h⟩:=h;rcases h with ⟨h1,h2,h3⟩|⟨c,es,cl,seen,h1,h2,h3,h4,h5⟩
  ·exact⟨h0,.inl ⟨h1,h2,by rw[hb,h3]⟩⟩
  ·exact⟨h0,.inr ⟨c,es,cl,seen,h1,(hw c h1).map h2,h3,by rw[hb,h4],h5⟩⟩
 |yloop y F st=>obtain⟨ri,r,h0,h1,h2,h3,h4,h5,h6,h7⟩:=h;exact⟨ri,r,h0,by rw[hb,h1],h2,h3,h4,h5,λs=>VRel.monoD hw _ (h6 s),h7⟩
end
section
variable {G:GTab (List AV)}{I K:Nat→Prop}{ρ:PMap}{h:FHeap}{w w':World}
theorem HRel.shut(r:HRel G I K ρ h w){S:Nat→Prop}(hS:∀c,S c→I c∧∃d,w.heap[c]?=some (.deferred d))(aZ:w'.heap.size=w.heap.size)(hw:∀c,¬S c→w'.heap[c]?=w.heap[c]?) :
 HRel G I K ρ h w':=by
 have hD:∀c,SameD w w' c:=by
  intro c;by_cases hc:S c
  ·exact .inr (hS c hc).2
  ·exact .inl (hw c hc)
 refine⟨?_,r.inj,λb m hb=>by rw[aZ];exact r.dom b m hb,λc hc=>by rw[aZ];exact r.imm c hc,λc hc=>by rw[aZ];exact r.kept c hc,r.apart,?_⟩
 ·intro b o hb;obtain⟨m,h1,h2,h3,h4⟩:=r.live b o hb;exact⟨m,h1,h2,h3,ORel.monoD (λc _=>hD c) o (hw _ (λhc=>h2 (hS _ hc).1)) h4⟩
 ·intro g cs hg;obtain⟨h1,h2⟩:=r.glob g cs hg;exact⟨h1,VAt.monoD (λc _=>hD c) cs (hD g) h2⟩
theorem c55(r:HRel G I K ρ h w){ob:Obj}(hw:w'.heap=w.heap.push ob)(ht:w'.tape=w.tape)(e9:w'.os=w.os)(a6:w'.output=w.output) :
 Stepped G I K ρ w (λc=>I c∨c=w.heap.size) ρ h w':=by
 have aT:∀c,c<w.heap.size→w'.heap[c]?=w.heap[c]?:=by intro c hc;rw[hw,g16,f4n (by omega)]
 refine⟨λ_ h=>.inl h,λ_ _ h=>h,⟨e9,ht,a6,by rw[hw];simp,?_⟩,⟨?_,r.inj,?_,?_,?_,?_,?_⟩⟩
 ·rintro c (hc|hc)
  ·exact aT c (r.imm c hc)
  ·exact aT c (r.kept c hc)
 ·intro b o hb;obtain⟨m,h1,h2,h3,h4⟩:=r.live b o hb;have hd:=r.dom b m h1;exact⟨m,h1,λhc=>hc.elim h2 (λe=>by omega),h3,ORel.mono o (λ_ h=>.inl h) (λc hc=>aT c (r.imm c hc)) (λ_ _ h=>h) (aT _ hd) h4⟩
 ·intro b m hb;have:=r.dom b m hb;rw[hw];simp only[Array.size_push];omega
 ·rintro c (hc|rfl)
  ·have:=r.imm c hc;rw[hw];simp only[Array.size_push];omega
  ·rw[hw];simp
 ·intro c hc;have:=r.kept c hc;rw[hw];simp only[Array.size_push];omega
 ·rintro c (hc|rfl) hk
  ·exact r.apart c hc hk
  ·have:=r.kept _ hk;omega
 ·intro g cs hg;obtain⟨h1,h2⟩:=r.glob g cs hg;exact⟨.inl h1,VAt.mono (λ_ h=>.inl h) (λc hc=>aT c (r.imm c hc)) cs (λ_ _ h=>h) (aT g (r.imm g h1)) h2⟩
theorem c2e(r:HRel G I K ρ h w){c0:Nat}(hI:¬I c0)(hK:¬K c0)(hl:∀b o m,h b=some o→ρ b=some m→m.blk≠c0)(aZ:w'.heap.size=w.heap.size)
 (hw:∀c,c≠c0→w'.heap[c]?=w.heap[c]?)(ht:w'.tape=w.tape)(e9:w'.os=w.os)(a6:w'.output=w.output):Stepped G I K ρ w I ρ h w':=by
 have cJ:∀c,I c→w'.heap[c]?=w.heap[c]?:=λc hc=>hw c (λe=>hI (e▸hc));refine⟨λ_ h=>h,λ_ _ h=>h,⟨e9,ht,a6,by omega,?_⟩,⟨?_,r.inj,λb m hb=>by rw[aZ];exact r.dom b m hb,λc hc=>by rw[aZ];exact r.imm c hc,λc hc=>by rw[aZ];exact r.kept c hc,r.apart,?_⟩⟩
 ·rintro c (hc|hc)
  ·exact cJ c hc
  ·exact hw c (λe=>hK (e▸hc))
 ·intro b o hb;obtain⟨m,h1,h2,h3,h4⟩:=r.live b o hb;exact⟨m,h1,h2,h3,ORel.mono o (λ_ h=>h) cJ (λ_ _ h=>h) (hw _ (hl b o m hb h1)) h4⟩
 ·intro g cs hg;obtain⟨h1,h2⟩:=r.glob g cs hg;exact⟨h1,VAt.mono (λ_ h=>h) cJ cs (λ_ _ h=>h) (cJ g h1) h2⟩
end
/-! ### a function's end -/
def a3e:List Nat→World→World
 | [],w=>w
 |r::rs,w=>a3e rs (w.putObj r (.deferred none))
theorem b3z:∀(rs:List Nat) (w:World),(a3e rs w).heap.size=w.heap.size∧(a3e rs w).tape=w.tape∧(a3e rs w).os=w.os∧(a3e rs w).output=w.output∧
 ∀c,c∉rs→(a3e rs w).heap[c]?=w.heap[c]?
 | [],w=>⟨rfl,rfl,rfl,rfl,λ_ _=>rfl⟩
 |r::rs,w=>by obtain⟨h1,h2,h3,h4,h5⟩:=b3z rs (w.putObj r (.deferred none));refine⟨by rw[a3e,h1];simp,by rw[a3e,h2];rfl,by rw[a3e,h3];rfl,by rw[a3e,h4];rfl,λc hc=>?_⟩;simp only[f6m,not_or]at hc;rw[a3e,h5 c hc.2,World.putObj_heap_other hc.1]
theorem b43{P:Program}{n:Nat}{F:Fence}{fn:Func}{tmps:Array Value}{R:Ending→World→Prop}:∀(rs:List Nat) (w:World),rs.Nodup→(∀r∈rs,w.heap[r]?=some (.deferred (some [])))→
 (∃v,(results fn tmps).run P (a3e rs w) = .ok v (a3e rs w)∧R (.returned v) (a3e rs w))→LeavesInM F n P fn tmps R (rs.map (λr=>(⟨.collected r,#[]⟩:Deferred))) .returning w
 | [],w,_,_,h=>by simpa[LeavesInM,LeavesIn,a3e]using h
 |r::rs,w,bQ,hr,h=>by simp only[c10,LeavesInM];refine⟨by simp,.inl ⟨r,w.putObj r (.deferred none),rfl,run_takeDeferred (hr r (by simp)),?_⟩⟩;have bQ:=g0m.1 bQ;refine b43 rs _ bQ.2 (λq hq=>?_) h;have aF:q≠r:=λe=>bQ.1 (by rw[←e];exact hq);rw[World.putObj_heap_other aF];exact hr q (by simp[hq])
/-! ### a scope -/
theorem b0t{F:Fence}{n:Nat}{P:Program}{Q:Exit→Act→World→Prop}{a:Act}{w:World}{c:Code}(h:c.wpIn F n P (Exit.noGoto Q) a w):(Code.scope c).wpIn F n P Q a w:=by
 intro b k cs kA hb hr;have h0:(lone (b.atR a (.code (.scope c)::k)) cs w).fenced P F:=fenced_calm hb hr rfl;have s0:step P (lone (b.atR a (.code (.scope c)::k)) cs w) = .next (lone (b.atR a (.code c :: .inScope c::k)) cs w):=step_lone_go (by simp[stepG,stepG.exec,Frame.atR]);obtain⟨e,a₁,w₁,hq,bF⟩:=h b (.inScope c::k) cs kA hb hr;have s1:step P (lone (b.atR a₁ (.inScope c::k)) cs w₁) = .next (lone (b.atR a₁ k) cs w₁):=step_lone_go (by simp[stepG,stepG.exec,Frame.atR]);cases e with
 |normal=>exact⟨.normal,a₁,w₁,hq,.head h0 s0 (StepsIn.trans bF (.one (fenced_calm hb hr rfl) s1))⟩
 |exit id=>
  have hx:exitTo id (.inScope c::k)=exitTo id k:=by simp[exitTo]
  exact⟨.exit id,a₁,w₁,hq,λk' hk=>.head h0 s0 (bF.1 k' (by rw[hx];exact hk)),
   λjG hk=>let⟨k₁,h1,h2⟩:=bF.2 jG (by rw[hx];exact hk);⟨k₁,h1,.head h0 s0 h2⟩⟩
 |goto l=>exact hq.elim
 |ret=>exact⟨_,a₁,w₁,hq,.of_steps (.one h0 s0) bF⟩
 |panic ch=>exact⟨_,a₁,w₁,hq,.of_steps (.one h0 s0) bF⟩
 |outgrown=>exact⟨_,a₁,w₁,hq,.of_steps (.one h0 s0) bF⟩
end Go.Ax
/- AxCode: statements. -/
namespace Go.Ax
def a3u:Bool→Code→Bool
 |top,.region _ al ag=>bif (d0z al.toList).isSome then top && !ag else bif ag then c86 al.toList else true
 |top,.seq a b=>a3u top a&&a3u false b
 |_,.cond _ a b=>a3u false a&&a3u false b
 |_,.block _ b=>a3u false b
 |_,.loop b=>a3u (b0q b).isSome b
 |_,.scope b=>a3u false b
 |_,_=>true
def b04(c:Code):Bool:=a3u false c
def AExit.conv:AExit→Exit
 |.normal=>.normal
 |.exit id=>.exit id
 |.ret=>.ret
def e6h(E:Env)(call:FuncId→List AV→a03→Option (AV×a03))(fid:Nat)(ro:Option Nat)(e:Entry)(N lf:Nat)(keep:Nat→List Nat)(c:Code):Prop:=
 ∀{R:Type} {cur:Nat},RFOk E fid N keep ro cur c→∀{k:AExit→Frm→a03→Option R} {r:R} {Q:Exit→Act→World→Prop},(∀x F H I ρ a w,Now E e N F H I ρ a w→k x F H=some r→Q x.conv a w)→
 ∀{F:Frm} {H:a03} {I:Nat→Prop} {ρ:PMap} {a:Act} {w:World},Now E e N F H I ρ a w→a4k E e.m N keep call lf cur c F H k=some r→c.wpIn (wf ro) 0 E.P Q a w
/-! ### a loop over a set -/
theorem c3l(x:Int):∀(a b:List Int),a++x::b∈c18 x (a++b)
 | [],[]=>by simp[c18]
 | [],y::b=>by simp[c18]
 |y::a,b=>by simp only[f6a,c18,f6m];exact .inr (f9w (c3l x a b))
theorem b34:∀{ks o:List Int},o.Perm ks→o∈a9q ks
 | [],o,h=>by rw[h.eq_nil];simp[a9q]
 |x::ks,o,h=>by obtain⟨a,b,rfl⟩:=List.append_of_mem (h.mem_iff.2 (List.mem_cons_self));have h2:(a++b).Perm ks:=(List.perm_middle.symm.trans h).cons_inv;simp only[a9q,g2d];exact⟨a++b,b34 h2,c3l x a b⟩
theorem b97(x:Int):∀{l o:List Int},o∈c18 x l→o.Perm (x::l)
 | [],o,h=>by simp only[c18,f6f]at h;rw[h]
 |y::l,o,h=>by
  simp only[c18,f6m,g01]at h;rcases h with rfl|⟨o',h,rfl⟩
  ·exact g1n _
  ·exact((b97 x h).cons y).trans (List.Perm.swap ..)
theorem b5t:∀{ks o:List Int},o∈a9q ks→o.Perm ks
 | [],o,h=>by simp only[a9q,f6f]at h;rw[h]
 |x::ks,o,h=>by simp only[a9q,g2d]at h;obtain⟨o',h1,h2⟩:=h;exact(b97 x h2).trans ((b5t h1).cons x)
theorem c73:∀{F G:a03},c2i F G=true→F=G
 | [],[],_=>rfl
 |a::F,b::G,h=>by simp only[c2i,d14]at h;rw[c72 _ _ h.1,c73 h.2]
 | [],_::_,h=>by simp[c2i]at h
 |_::_,[],h=>by simp[c2i]at h
theorem c74{x:Option R3}{r:R3}(h:c90 x r=true):x=some r:=by
 unfold c90 at h;split at h
 case h_2=>cases h
 rename_i e F H;simp only[d14]at h;obtain⟨e',F',H'⟩:=r;have he:e=e':=by have:=h.1;cases e<;>cases e'<;>simp[e2v]at this<;>first|rfl|rw[this]
 rw[he,c0b h.2.1,c73 h.2.2]
section
variable {E:Env}
theorem a8i{H:a03}{b x:Nat}{o:Option AObj}:a01 (H.set b o) x=if b=x∧b<H.length then o else a01 H x:=by
 unfold a01;rw[f6k];by_cases h:b=x
 ·subst h;by_cases h2:b<H.length
  ·simp[h2]
  ·simp[h2]
 ·simp[h]
theorem b22{H:a03}{b:Nat}{o:AObj}(h:a01 H b=some o):b<H.length:=by
 unfold a01 at h;rcases g04 b H.length with h1|h1
 ·exact h1
 ·rw[f6h h1]at h;simp at h
theorem Now.dropIt{e:Entry}{N:Nat}{F:Frm}{H:a03}{I:Nat→Prop}{ρ:PMap}{a:Act}{w:World}(h:Now E e N F H I ρ a w)(it:Nat):Now E e N F (Ax.dropIt F H it) I ρ a w:=by
 unfold Ax.dropIt;split
 ·rename_i b i o hb;refine{ h with rel:=h.rel.fewer (λx ob hx=>?_),nrel:=by rw[f6j];exact h.nrel,low:=by rw[f6j];exact h.low };rw[a8i]at hx;split at hx
  ·cases hx
  ·exact hx
 ·exact h
theorem Now.step{e:Entry}{N:Nat}{F:Frm}{H:a03}{I:Nat→Prop}{ρ:PMap}{a:Act}{w w':World}(h:Now E e N F H I ρ a w){b:Nat}{o:AObj}(hb:b<H.length)(st:Stepped E.G I e.K ρ w I ρ ((a01 H).eff H.length (.set b o)) w')
 {nx:Nat}(eX:nx<N){v:AV}{c:Value}(hv:VRel I w' ρ v c):Now E e N (a4i F (some nx) v) (H.set b (some o)) I ρ (a.put (some nx) c) w':=by
 have hl:(H.set b (some o)).length=H.length:=f6j;refine⟨h.imm,h.map,h.ext.trans h.imm st.ext,st.rel.fewer ?_,by rw[hl];exact h.nrel,?_,by rw[hl];exact h.low,by rw[a3q];exact h.marks.mono (λ_ h=>h) (λc hc=>st.ext.keep c (.inl hc))⟩
 ·exact c85 H (.set b o)
 ·exact(FRel.mono h.frm (λv c hv=>st.vrel hv)).set (by intro s hs;cases hs;exact eX) hv
theorem d7h(ok:EnvOk E){call:FuncId→List AV→a03→Option (AV×a03)}(ak:a4w E call){fid:Nat}{ro:Option Nat}{e:Entry}{N lf:Nat}{keep:Nat→List Nat}{af:Code}(cX:e6h E call fid ro e N lf keep af)
 {id:Nat}{al:Array Oper}{it nx:Nat}{fZ:List Oper}(eX:d0z al.toList=some (it,nx,fZ)){R:Type}{cur:Nat}(di:RFOk E fid N keep ro cur af){k:AExit→Frm→a03→Option R}{r:R}{Q:Exit→Act→World→Prop}
 (hQ:∀x F H I ρ a w,Now E e N F H I ρ a w→k x F H=some r→Q x.conv a w){F:Frm}{H:a03}{I:Nat→Prop}{ρ:PMap}{a:Act}{w:World}(aj:Now E e N F H I ρ a w)
 (ae:c32 e.m it (keep cur) (λF H k=>a4k E e.m N keep call lf cur (.seq (.region id al false) af) F H k) F H k=some r):(Code.loop (.seq (.region id al false) af)).wpIn (wf ro) 0 E.P Q a w:=by
 obtain⟨o0,d7,du,mE,tg⟩:∃o0,al.toList=o0::fZ∧o0.op = .next (.tmp it) false∧o0.dst=some nx∧o0.guard=none:=by
  unfold d0z at eX;split at eX
  ·cases eX
  ·rename_i o sr he;split at eX
   ·rename_i uq wb h1 h2 h3;cases eX;exact⟨o,he,h1,h2,h3⟩
   ·cases eX
 unfold c32 at ae;split at ae
 case h_2=>cases ae
 rename_i ks cQ;split at ae
 case h_2=>cases ae
 rename_i r0 rs i3;rw[cond_eq_ite]at ae;split at ae
 case isFalse=>cases ae
 rename_i bd;have aR:∀o,o.Perm ks→a4g e.m it (keep cur) ks (λF H k=>a4k E e.m N keep call lf cur (.seq (.region id al false) af) F H k) [] o F H=some r0:=by
  intro o ho;have hm:=f9w (f:=λo=>a4g e.m it (keep cur) ks (λF H k=>a4k E e.m N keep call lf cur (.seq (.region id al false) af) F H k) [] o F H) (b34 ho);rw[i3]at hm;rcases f6m.1 hm with h|h
  ·exact h
  ·exact c74 (f8c.1 bd _ h)
 refine c28 (n:=ks.length+1) (λn a w=>∃F H I ρ aC R,Now E e N F H I ρ a w∧R.length+1=n∧(aC++R).Perm ks∧
  ∀o,o.Perm R→a4g e.m it (keep cur) ks (λF H k=>a4k E e.m N keep call lf cur (.seq (.region id al false) af) F H k) aC o F H=some r0) ?_ ?_ ⟨F,H,I,ρ,[],ks,aj,rfl,g1n _,aR⟩
 ·rintro n a w ⟨F,H,I,ρ,aC,R,aj,hn,dq,aR⟩
  -- the head
  have head:∀{fR:Option Int} {e' F' H'},b0p e.m it (keep cur) ks aC (λF H k=>a4k E e.m N keep call lf cur (.seq (.region id al false) af) F H k) fR F H=some (e',F',H')→
   ∃F1 H1 ρ1 b bT,gcD e.m (keep cur) F H=some (F1,H1)∧Now E e N F1 H1 I ρ1 a w∧a34 F1 it = .ptr b 0 0∧a01 H1 b=some (.miter ks aC bT)∧
    a4k E e.m N keep call lf cur (.seq (.region id al false) af) F1 (H1.set b (some (.miter ks aC (some fR)))) (λe F' H'=>some (e,F',H'))=some (e',F',H'):=by
   intro fR e' F' H' hr;unfold b0p at hr;split at hr
   case h_2=>cases hr
   rename_i F1 H1 hg;split at hr
   case h_2=>cases hr
   rename_i H2 ha;unfold f2m at ha;split at ha
   case h_2=>cases ha
   rename_i b hb;split at ha
   case h_2=>cases ha
   rename_i ku b9 bT dF;rw[cond_eq_ite]at ha;split at ha
   case isFalse=>cases ha
   rename_i hc;simp only[d14,f4p]at hc;obtain⟨rfl,rfl⟩:=hc;cases ha;have fU:=hg;unfold gcD at fU;dsimp only at fU;rw[cond_eq_ite]at fU;split at fU
   case isFalse=>cases fU
   rename_i hc;simp only[d14,f8c,g0h]at hc;cases fU;obtain⟨ρ',iy⟩:=(aj.keep (keep cur)).gc (b0h hc.1.1) hc.1.2;exact⟨_,_,ρ',b,bT,hg,iy,hb,dF,hr⟩
  -- one round,after the ip
  have kq:∀{fR:Option Int} {e':AExit} {F':Frm} {H':a03} {F1:Frm} {H1:a03} {ρ1:PMap} {b:Nat} {bT:Option (Option Int)} {v:AV} {o1:AObj} {c:Value} {w':World},
   Now E e N F1 H1 I ρ1 a w→a34 F1 it = .ptr b 0 0→a01 H1 b=some (.miter ks aC bT)→
   (c0t F1 (H1.set b (some (.miter ks aC (some fR)))) it=some (v,(H1.set b (some (.miter ks aC (some fR)))).set b (some o1)))→
   (Instr.next (a.eval (.tmp it)) false o0.type).run E.P w = .ok c w'→Stepped E.G I e.K ρ1 w I ρ1 ((a01 H1).eff H1.length (.set b o1)) w'→VRel I w' ρ1 v c→
   a4k E e.m N keep call lf cur (.seq (.region id al false) af) F1 (H1.set b (some (.miter ks aC (some fR)))) (λe F' H'=>some (e,F',H'))=some (e',F',H')→
   ∀{Q':Exit→Act→World→Prop},(∀I ρ a w,Now E e N F' H' I ρ a w→Q' e'.conv a w)→(Code.seq (.region id al false) af).wpIn (wf ro) 0 E.P Q' a w:=by
   intro fR e' F' H' F1 H1 ρ1 b bT v o1 c w' bH hb dF pB jH az hv hr Q' pT;unfold a4k at hr;unfold a4k at hr;rw[eX]at hr;simp only[Bool.false_or,cond_eq_ite]at hr;split at hr
   case isTrue=>cases hr
   rename_i ah;have ah:nx<N:=by simpa[f8f]using ah
   rw[pB]at hr;simp only[List.set_set]at hr;have jM:=bH.step (b22 dF) az ah hv;refine wpIn_seq (wpIn_region ?_);have ai:List.range al.size=0::List.range' 1 fZ.length:=by rw[List.range_eq_range',←f8d,d7,e12,List.range'_succ]
   rw[ai];have ho:al[0]?=some o0:=by
    have:al.toList[0]?=some o0:=by rw[d7];rfl
    simpa using this
   refine b87 ho (by simp[Region.wanted,tg]) ?_;refine a9h (by rw[du];intro c hc;cases hc) ?_;have hx:(execOp a.eval o0).run E.P w = .ok (.value c) w':=by
    have:execOp a.eval o0=(do pure (.value (←Instr.next (a.eval (.tmp it)) false o0.type))):=by obtain⟨d,op,ty,pos,after,guard⟩:=o0;simp only at du;subst du;rfl
    rw[this];simp[jH]
   rw[hx,Oper.uponIn_value,mE];refine b2z ok ak (al:=al) (k:=λF' H'=>a4k E e.m N keep call lf cur af F' H' λe F' H'=>some (e,F',H')) ?_ fZ 1 _ _ _ _ _ _ _ (by rw[d7];rfl) jM hr;intro F H I ρ a w hn hk;refine cX di ?_ hn hk;intro x F H I ρ a w hn hk;cases hk;exact pT I ρ a w hn
  -- what the iterator answers
  have ip:∀{F1:Frm} {H1:a03} {ρ1:PMap} {b:Nat} {bT:Option (Option Int)},Now E e N F1 H1 I ρ1 a w→a34 F1 it = .ptr b 0 0→a01 H1 b=some (.miter ks aC bT)→
   (∃i,i∈ks∧i∉aC∧∃w',(Instr.next (a.eval (.tmp it)) false o0.type).run E.P w = .ok (.tuple #[.bool true,.int .i64 i,.bool true]) w'∧Stepped E.G I e.K ρ1 w I ρ1 ((a01 H1).eff H1.length (.set b (.miter ks (aC++[i]) none))) w')∨
    ((∀i∈ks,i∈aC)∧∃w',(Instr.next (a.eval (.tmp it)) false o0.type).run E.P w = .ok (.tuple #[.bool false]) w'∧Stepped E.G I e.K ρ1 w I ρ1 ((a01 H1).eff H1.length (.set b (.miter ks aC none))) w'):=by
   intro F1 H1 ρ1 b bT bH hb dF;have hp:=bH.frm.2 it;rw[hb]at hp;simp only[VRel]at hp;obtain⟨m,hm,fu⟩:=hp;obtain⟨m',bA,_,_,h0,_⟩:=bH.rel.live b _ dF;obtain rfl:m=m':=z9o (hm.symm.trans bA);have:a.eval (.tmp it) = .pointer (some ⟨m.blk,0,none⟩):=by show a.tmps.getD it undef=_;rw[fu,h0];simp
   rw[this];exact d7e bH.rel dF hm o0.type
  have nodup:∀{H1:a03} {ρ1:PMap} {F1:Frm} {b:Nat} {bT:Option (Option Int)},Now E e N F1 H1 I ρ1 a w→a01 H1 b=some (.miter ks aC bT)→ks.Nodup:=by
   intro H1 ρ1 F1 b bT bH dF;obtain⟨m',bA,_,_,h0,ho⟩:=bH.rel.live b _ dF;rcases ho with ⟨h1,_⟩|⟨c,es,cl,seen,_,_,hs,_⟩
   ·rw[h1];exact List.nodup_nil
   ·exact hs.2.2.1
  have bi:∀{H1:a03} {b:Nat} {bT:Option (Option Int)} (fR:Option Int),a01 H1 b=some (.miter ks aC bT)→a01 (H1.set b (some (.miter ks aC (some fR)))) b=some (.miter ks aC (some fR)):=by intro H1 b bT fR dF;rw[a8i,f6e ⟨rfl,b22 dF⟩]
  cases R with
  |nil=>
   have h1:=aR [] (g1n _);unfold a4g at h1;split at h1
   ·cases h1
   ·rename_i e' F' H' aF hr;cases h1;obtain⟨F1,H1,ρ1,b,bT,hg,bH,hb,dF,ez⟩:=head hr;rcases ip bH hb dF with ⟨i,hi,qO,_⟩|⟨_,w',lY,az⟩
    ·have:=dq.mem_iff.2 hi;rw[f4g]at this;exact absurd this qO
    ·refine kq (v:=.tuple [.bool false]) (c:=.tuple #[.bool false]) bH hb dF (by unfold c0t;rw[hb,];simp only[bi none dF]) lY az (by simp only[VRel];exact⟨_,rfl,by simp only[VRels];exact⟨_,_,rfl,by simp[VRel],rfl⟩⟩) ez ?_;intro I ρ a w hn;have hq:=hQ e' F' _ I ρ a w (hn.dropIt it) ae;cases e' with
     |normal=>exact(aF rfl).elim
     |exit id=>exact hq
     |ret=>exact hq
   ·cases h1
  |cons x R=>
   have h1:=aR (x::R) (g1n _);have eA:∃e' F' H',b0p e.m it (keep cur) ks aC (λF H k=>a4k E e.m N keep call lf cur (.seq (.region id al false) af) F H k) (some x) F H=some (e',F',H'):=by
    unfold a4g at h1;split at h1
    ·rename_i F' H' hr;exact⟨_,_,_,hr⟩
    ·cases h1
   obtain⟨_,_,_,eA⟩:=eA;obtain⟨F1,H1,ρ1,b,bT,hg,bH,hb,dF,_⟩:=head eA;have bQ:=nodup bH dF;rcases ip bH hb dF with ⟨i,hi,qO,w',lY,az⟩|⟨oZ,_⟩
   ·have uZ:i∈x::R:=by
     rcases f8n.1 (dq.mem_iff.2 hi)with h|h
     ·exact absurd h qO
     ·exact h
    have fu:(i::(x::R).erase i).Perm (x::R):=(List.perm_cons_erase uZ).symm;have h2:=aR _ fu;unfold a4g at h2;split at h2
    case h_2=>cases h2
    rename_i F' H' hr;obtain⟨wM,v6,ρ1',b',vZ,fU,hU,bq,u4,ez⟩:=head hr;rw[hg]at fU;cases fU;rw[hb]at bq;cases bq;refine kq (v:=.tuple [.bool true,.int .i64 i,.bool true]) (c:=.tuple #[.bool true,.int .i64 i,.bool true]) bH hb dF (by unfold c0t;rw[hb];simp only[bi (some i) dF]) lY az
     (by simp only[VRel];exact⟨_,rfl,by simp only[VRels];exact⟨_,_,rfl,by simp[VRel],_,_,rfl,by simp[VRel],_,_,rfl,by simp[VRel],rfl⟩⟩) ez ?_
    intro I2 ρ2 a2 w2 eG;refine⟨F',H',I2,ρ2,aC++[i],(x::R).erase i,eG,?_,?_,?_⟩
    ·have:=fu.length_eq;simp only[e12]at this hn⊢;omega
    ·rw[f4i];exact(fu.append_left aC).trans dq
    ·intro o ho;have h3:=aR (i::o) ((ho.cons i).trans fu);unfold a4g at h3;rw[hr]at h3;exact h3
   ·have hx:x∈ks:=dq.mem_iff.1 (by simp);have kG:=dq.nodup_iff.2 bQ;rw[List.nodup_append]at kG;exact absurd rfl (kG.2.2 x (oZ x hx) x (by simp))
 ·rintro a w ⟨F,H,I,ρ,aC,R,_,hn,_⟩
  omega
/-! ### a loop over a function -/
theorem b5f:∀(F:List (Nat×AV)) (s:Nat),c2h F s=a34 F s
 | [],s=>rfl
 |(t,v)::F,s=>by simp only[c2h,a34,b5f F s]
theorem d13{H:a03}{b:Nat}{st:YSt}(h:f0j H b=some st):∃y F,a01 H b=some (.yloop y F st):=by
 unfold f0j at h;split at h
 ·rename_i y F v7 hb;cases h;exact⟨y,F,hb⟩
 ·cases h
theorem c27{H H':a03}{b:Nat}{old new:YSt}(h:e21 H b old new=some H'):∃y F,a01 H b=some (.yloop y F old)∧H'=H.set b (some (.yloop y F new)):=by
 unfold e21 at h;split at h
 ·rename_i y F st hb;rw[cond_eq_ite]at h;split at h
  ·rename_i az;have az:=of_decide_eq_true az;subst az;cases h;exact⟨y,F,hb,rfl⟩
  ·cases h
 ·cases h
theorem Now.yput{e:Entry}{N:Nat}{F:Frm}{H:a03}{I:Nat→Prop}{ρ:PMap}{a:Act}{w:World}(h:Now E e N F H I ρ a w){b y:Nat}{F0:Frm}{old new:YSt}{m:Pl}{r r':Loop}
 (hb:a01 H b=some (.yloop y F0 old))(hm:ρ b=some m)(hr:w.heap[m.blk]?=some (.loop r))(cF:r'.tmps=r.tmps∧r'.params=r.params∧r'.assign=r.assign∧r'.body=r.body)
 (az:match new with
  |.ready=>r'.state = .ready∧r'.pending=none
  |.busy=>r'.state = .busy
  |.done j=>r'.state = .done∧r'.pending=some (c7i j)):Now E e N F (H.set b (some (.yloop y F0 new))) I ρ a (w.putObj m.blk (.loop r')):=by
 obtain⟨m',bA,dL,gH,ri,r0,h0,h1,h2,h3,h4,h5,h6,h7⟩:=h.rel.live b _ hb;obtain rfl:m=m':=z9o (hm.symm.trans bA);obtain rfl:r=r0:=by rw[hr]at h1;cases h1;rfl
 have ah:=h.rel.dom b m hm;have cJ:∀c,I c→(w.putObj m.blk (.loop r')).heap[c]?=w.heap[c]?:=λc hc=>World.putObj_heap_other (λe=>dL (e▸hc));have st:Stepped E.G I e.K ρ w I ρ ((a01 H).eff H.length (.set b (.yloop y F0 new))) (w.putObj m.blk (.loop r')):=by refine a2n h.rel hb hm (by simp) (λc hc=>World.putObj_heap_other hc) rfl rfl rfl ?_;refine⟨ri,r',h0,World.putObj_heap_same ah,by rw[cF.1];exact h2,by rw[cF.2.1];exact h3,by rw[cF.2.2.1];exact h4,by rw[cF.2.2.2];exact h5,λs=>?_,az⟩;rw[cF.1];exact VRel.mono (λ_ h=>h) cJ _ (λ_ _ h=>h) (h6 s)
 have hl:(H.set b (some (AObj.yloop y F0 new))).length=H.length:=f6j;exact⟨h.imm,h.map,h.ext.trans h.imm st.ext,st.rel.fewer (c85 H (.set b (.yloop y F0 new))),by rw[hl];exact h.nrel,FRel.mono h.frm (λv c hv=>st.vrel hv),by rw[hl];exact h.low,h.marks.mono (λ_ h=>h) (λc hc=>st.ext.keep c (.inl hc))⟩
def YSt.jump:YSt→Option Code
 |.done j=>some (c7i j)
 |_=>none
theorem f3x(ok:EnvOk E){call:FuncId→List AV→a03→Option (AV×a03)}(ak:a4w E call){fid:Nat}{e:Entry}{N lf:Nat}{keep:Nat→List Nat}{g:Operand}{ps:Array Tmp}{asg body:Code}
 {R:Type}{cur:Nat}(di:RFOk E fid N keep none cur (.rangeFunc g ps asg body)){k:AExit→Frm→a03→Option R}{r:R}{Q:Exit→Act→World→Prop}(hQ:∀x F H I ρ a w,Now E e N F H I ρ a w→k x F H=some r→Q x.conv a w)
 {F:Frm}{H:a03}{I:Nat→Prop}{ρ:PMap}{a:Act}{w:World}(aj:Now E e N F H I ρ a w)(ae:a4k E e.m N keep call lf cur (.rangeFunc g ps asg body) F H k=some r) :
 (Code.rangeFunc g ps asg body).wpIn (wf none) 0 E.P Q a w:=by
 unfold a4k at ae;split at ae
 case h_2=>cases ae
 rename_i gf fs cs y iE hy;rw[cond_eq_ite]at ae;split at ae
 case isFalse=>cases ae
 rename_i hc;simp only[d14,f9y]at hc;obtain⟨hg,_⟩:=hc;split at ae
 case h_2=>cases ae
 rename_i v H2 σ eB;obtain⟨y',jv,od⟩:=di.2 (cur,⟨N,ps.toList,asg,body,fid⟩) (by simp[rfs]);rw[hy]at jv;cases jv;have hf:=b5x aj.rel aj.frm g;rw[iE]at hf;simp only[VRel]at hf;obtain⟨cR,aO,eS,gJ,eJ⟩:=hf;refine wpIn_rangeFunc (F:=Fence.wide) (λfn _=>?_)
 let rec0:Loop:={ state:=.ready,pending:=none,fn,tmps:=a.tmps,params:=ps,assign:=asg,body,defers:=w.heap.size }
 let w1:World:=w.alloc (.deferred (some []))
 let w2:World:=w1.alloc (.loop rec0)
 let m:Pl:=⟨w.heap.size+1,0,0,0⟩
 let Y:AObj:=.yloop y (a2c (keep cur) F) .ready
 have jg:w1.heap.size=w.heap.size+1:=by simp[w1]
 have mV:Stepped E.G I e.K ρ w (λc=>I c∨c=w.heap.size) ρ (a01 H) w1:=c55 aj.rel (ob:=.deferred (some [])) rfl rfl rfl rfl;have aT:∀b q,ρ b=some q→(ρ.set H.length m) b=some q:=PMap.set_old (aj.nrel _ (f6l _));have fE:∀c,c<w1.heap.size→w2.heap[c]?=w1.heap[c]?:=by intro c hc;show(w1.heap.push _)[c]?=_;rw[g16,f4n (by omega)]
 have pn:Stepped E.G (λc=>I c∨c=w.heap.size) e.K ρ w1 (λc=>I c∨c=w.heap.size) (ρ.set H.length m) ((a01 H).eff H.length (.new Y)) w2:=by
  refine a2v mV.rel (b9w H) (aj.nrel _ (f6l _)) (ob:=.loop rec0) rfl rfl rfl rfl jg.symm ?_;refine⟨_,rec0,od,?_,aj.frm.1,rfl,rfl,rfl,λs=>?_,rfl,rfl⟩
  ·have:=World.alloc_heap_new w1 (.loop rec0);rw[jg]at this;exact this
  ·rw[b5f,b6n];split
   ·exact VRel.mono (λc hc=>hc) (λc hc=>fE c (mV.rel.imm c hc)) _ aT (mV.vrel (aj.frm.2 s))
   ·simp[VRel]
 have oe:HRel E.G (λc=>I c∨c=w.heap.size) e.K (ρ.set H.length m) (a01 (H++[some Y])) w2:=pn.rel.fewer (c85 H (.new Y));have eG:NRel (ρ.set H.length m) (H++[some Y]).length:=by intro b hb;simp only[f5z,e12,f4o]at hb;simp only[PMap.set];rw[f4n (by omega)];exact aj.nrel b (by omega)
 have up:∀{v:AV} {c:Value},VRel I w ρ v c→VRel (λc=>I c∨c=w.heap.size) w2 (ρ.set H.length m) v c:=λhv=>pn.vrel (mV.vrel hv);have sn:∀{v:List AV} {c:List Value},VRels I w ρ v c→VRels (λc=>I c∨c=w.heap.size) w2 (ρ.set H.length m) v c:=λhv=>pn.vrels (mV.vrels hv);have aL:VRels (λc=>I c∨c=w.heap.size) w2 (ρ.set H.length m) (fs++[.yfn H.length]++cs) (cR ++ #[Value.func (.yield (w.heap.size+1)) #[] #[]]++aO).toList:=by simp only[Array.toList_append];refine VRels.append (VRels.append (sn gJ) ?_) (sn eJ);simp only[VRels];exact⟨_,_,rfl,by simp only[VRel];exact⟨m,by simp[PMap.set],rfl⟩,rfl⟩
 have ij:=b3r (ak gf) eB oe eG aL;obtain⟨i,hi⟩:=f4k.1 hg;rw[b4i (c9w ok hi)]at ij;have bF:(cR ++ #[Value.func (.yield (w.heap.size+1)) #[] #[]]++aO).toList.toArray=cR ++ #[Value.func (.yield (w.heap.size+1)) #[] #[]]++aO:=by apply g15;simp
 rw[bF]at ij;refine⟨w.heap.size+1,[{ target:=.collected w.heap.size,args:=#[] }],w2,⟨.fn (.func gf) aO,cR ++ #[Value.func (.yield (w.heap.size+1)) #[] #[]]⟩,w2,gf,_,w2,run_enterLoop_outer fn a.tmps ps asg body,?_,λ_ _=>trivial,?_,λh=>by simp[Fence.wide]at h,callsIn_wide.2 (Calls.mono ij ?_)⟩
 ·have rz:a.eval (.const (Value.func (.yield (w.heap.size+1)) #[] #[]))=Value.func (.yield (w.heap.size+1)) #[] #[]:=rfl;simp only[resolve,rangeCall,eS,Deferred.ofValue,List.map_toArray,c10,f4h,rz];rfl
 ·simp only[invoke];exact a4r ok hg _
 rintro en w3 ⟨c,I',ρ',rfl,aB,dh⟩
 rw[f5z,List.length_singleton]at aB
 -- behind the loop
 have fin:∀(st:YSt),f0j H2 H.length=some st→∀(pC:st≠ .busy),∃w4,(Instr.endLoop (w.heap.size+1)).run E.P w3 = .ok st.jump w4∧
  Now E e N F (H2.set H.length none) I' ρ' { a with defers:=[{ target:=.collected w.heap.size,args:=#[] }]++a.defers } w4:=by
  intro st az pC;obtain⟨y1,F1,hb⟩:=d13 az;obtain⟨m1,iz,dL,gH,v8,r1,g0,g1,g2,g3,g4,g5,g6,g7⟩:=aB.rel.live _ _ hb;have hm:ρ' H.length=some m:=by rw[aB.map _ (by omega)];simp[PMap.set]
  obtain rfl:m=m1:=z9o (hm.symm.trans iz);have eP:r1.state≠ .busy∧r1.pending=st.jump:=by
   cases st with
   |ready=>exact⟨by rw[g7.1];simp,g7.2⟩
   |busy=>exact absurd rfl pC
   |done j=>exact⟨by rw[g7.1];simp,g7.2⟩
  have mC:=run_endLoop (P:=E.P) g1 eP.1;refine⟨w3.putObj m.blk (.loop { r1 with state:=.exhausted }),by rw[←eP.2];exact mC,?_⟩;have cN:=aB.low;have vl:H.length<H2.length:=by omega
  have so:Stepped E.G I' e.K ρ' w3 I' ρ' (a01 (H2.set H.length none)) (w3.putObj m.blk (.loop { r1 with state:=.exhausted })):=by
   refine c2e (c0:=m.blk) (aB.rel.fewer ?_) dL gH ?_ (by simp) (λc hc=>World.putObj_heap_other hc) rfl rfl rfl
   ·intro b o hb;rw[a8i]at hb;split at hb
    ·cases hb
    ·exact hb
   ·intro b o q bq hq he;rw[a8i]at bq;split at bq
    ·cases bq
    ·rename_i aF;have:=aB.rel.inj b H.length q m (by simp[bq]) (by simp[hb]) hq hm he;exact aF ⟨this.symm,vl⟩
  have jp:∀c,I c→I' c:=λc hc=>aB.imm c (.inl hc);have cq:Ext I e.K w (w3.putObj m.blk (.loop { r1 with state:=.exhausted })):=((mV.ext.trans (λ_ h=>.inl h) pn.ext).trans (λ_ h=>.inl h) aB.ext).trans jp so.ext;have hρ':∀b q,ρ b=some q→ρ' b=some q:=by
   intro b q hq;have dZ:b<H.length:=by
    rcases g04 b H.length with h|h
    ·exact h
    ·rw[aj.nrel b h]at hq;cases hq
   rw[aB.map b (by omega)];exact aT b q hq
  have hl:(H2.set H.length none).length=H2.length:=f6j;refine⟨λc hc=>jp c (aj.imm c hc),λb hb=>?_,aj.ext.trans aj.imm cq,so.rel,by rw[hl];exact aB.nrel,FRel.mono aj.frm (λv c hv=>VRel.mono jp (λc hc=>cq.keep c (.inl hc)) v hρ' hv),by rw[hl];have:=aj.low;omega,?_⟩
  ·have:=aj.low;rw[aB.map b (by omega)];simp only[PMap.set];rw[f4n (by omega)];exact aj.map b hb
  ·obtain⟨rs,q1,q2,q3⟩:=aj.marks;refine⟨w.heap.size::rs,by rw[q1];rfl,g0m.2 ⟨λhm=>?_,q2⟩,?_⟩
   ·have:=(f8m.1 (q3 _ hm).2.2).1;omega
   ·intro q hq;rcases f6m.1 hq with rfl|hq
    ·refine⟨aB.imm _ (.inr rfl),aj.ext.size,?_⟩;rw[World.putObj_heap_other (by show w.heap.size≠w.heap.size+1;omega),aB.ext.keep _ (.inl (.inr rfl)),fE _ (by omega)];exact World.alloc_heap_new w _
    ·obtain⟨p1,p2,p3⟩:=q3 q hq;exact⟨jp q p1,p2,by rw[cq.keep q (.inl p1)];exact p3⟩
 show rangePost Fence.wide 0 E.P (w.heap.size+1) Q _ (.returned c) w3;split at ae
 ·rename_i az;obtain⟨w4,h1,h2⟩:=fin _ az (by simp);exact⟨none,w4,h1,hQ .normal _ _ _ _ _ _ h2 ae⟩
 ·rename_i az;obtain⟨w4,h1,h2⟩:=fin _ az (by simp);exact⟨some .ret,w4,h1,wpIn_ret (hQ .ret _ _ _ _ _ _ h2 ae)⟩
 ·rename_i id az;obtain⟨w4,h1,h2⟩:=fin _ az (by simp);exact⟨some (.exit id),w4,h1,wpIn_exit (hQ (.exit id) _ _ _ _ _ _ h2 ae)⟩
 ·cases ae
theorem d9g(ok:EnvOk E){call:FuncId→List AV→a03→Option (AV×a03)}(ak:a4w E call){fid:Nat}{ro:Option Nat}{e:Entry}{N lf:Nat}{keep:Nat→List Nat}:∀(c:Code),
 (a3u false c=true→e6h E call fid ro e N lf keep c)∧(∀x r,c = .seq x r→a3u false r=true→e6h E call fid ro e N lf keep r):=by
 intro c
 induction c with
 |skip=>exact⟨λ_ R cur di k r Q hQ F H I ρ a w aj ae=>wpIn_skip (hQ .normal F H I ρ a w aj ae),λ_ _ h=>by cases h⟩
 |label l=>exact⟨λ_ R cur di k r Q hQ F H I ρ a w aj ae=>wpIn_label (hQ .normal F H I ρ a w aj ae),λ_ _ h=>by cases h⟩
 |exit id=>exact⟨λ_ R cur di k r Q hQ F H I ρ a w aj ae=>wpIn_exit (hQ (.exit id) F H I ρ a w aj ae),λ_ _ h=>by cases h⟩
 |ret=>exact⟨λ_ R cur di k r Q hQ F H I ρ a w aj ae=>wpIn_ret (hQ .ret F H I ρ a w aj ae),λ_ _ h=>by cases h⟩
 |region id al ag=>
  refine⟨?_,λ_ _ h=>by cases h⟩;intro az R cur di k r Q hQ F H I ρ a w aj ae;have pT:∀F H I ρ a w,Now E e N F H I ρ a w→k .normal F H=some r→Q .normal a w:=λF H I ρ a w h hk=>hQ .normal _ H I ρ a w h hk;unfold a3u at az;unfold a4k at ae;cases eX:d0z al.toList with
  |some x=>rw[eX]at az;cases az
  |none=>
   rw[eX]at az ae;cases ag with
   |true=>exact c5d (al:=al) ok ak az pT aj ae id
   |false=>refine wpIn_region ?_;have:=b2z (ro:=ro) ok ak (al:=al) pT al.toList 0 [] F H I ρ a w rfl aj ae;rw[List.range_eq_range',←f8d];exact this
 |seq x y ihx ihy=>
  refine⟨?_,λ_ _ h hd=>by cases h;exact ihy.1 hd⟩;intro az R cur di k r Q hQ F H I ρ a w aj ae;simp only[a3u,d14]at az;refine wpIn_seq (ihx.1 az.1 di.seq1 ?_ aj ae);intro x F H I ρ a w hn hk;cases x with
  |normal=>exact ihy.1 az.2 di.seq2 hQ hn hk
  |exit id=>exact hQ (.exit id) F H I ρ a w hn hk
  |ret=>exact hQ .ret F H I ρ a w hn hk
 |cond c x y ihx ihy=>
  refine⟨?_,λ_ _ h=>by cases h⟩;intro az R cur di k r Q hQ F H I ρ a w aj ae;simp only[a3u,d14]at az;unfold a4k at ae;split at ae
  case h_2=>cases ae
  rename_i t ht;have hc:=b5x aj.rel aj.frm c;rw[ht]at hc;simp only[VRel]at hc;cases t
  ·exact wpIn_cond_false hc (ihy.1 az.2 di.cond2 hQ aj ae)
  ·exact wpIn_cond_true hc (ihx.1 az.1 di.cond1 hQ aj ae)
 |block id b ih=>
  refine⟨?_,λ_ _ h=>by cases h⟩;intro az R cur di k r Q hQ F H I ρ a w aj ae;refine wpIn_block (ih.1 az di.block ?_ aj ae);intro x F H I ρ a w hn hk;cases x with
  |normal=>exact hQ .normal F H I ρ a w hn hk
  |exit id'=>
   simp only[AExit.conv,Exit.inBlock];dsimp only at hk;rw[cond_eq_ite]at hk;split at hk
   ·rename_i h;rw[f6e (by simpa using h)];exact hQ .normal F H I ρ a w hn hk
   ·rename_i h;rw[f4n (by simpa using h)];exact hQ (.exit id') F H I ρ a w hn hk
  |ret=>exact hQ .ret F H I ρ a w hn hk
 |loop b ih=>
  refine⟨?_,λ_ _ h=>by cases h⟩;intro az R cur di k r Q hQ F H I ρ a w aj ae;unfold a3u at az;unfold a4k at ae;cases cG:b0q b with
  |some it=>
   rw[cG]at az ae;unfold b0q at cG;split at cG
   case h_2=>cases cG
   rename_i id al af;obtain⟨⟨uq,nx,fZ⟩,h1,h2⟩:=a08 cG;simp only at h2;subst h2;have az:a3u true (.seq (.region id al false) af)=true:=az;simp only[a3u,d14]at az;exact d7h ok ak (ih.2 _ _ rfl az.2) h1 di.loop.seq2 hQ aj ae
  |none=>
  rw[cG]at az ae;refine c28 (n:=lf) (λn a w=>∃F H I ρ,Now E e N F H I ρ a w∧b4o e.m (keep cur) (λF H k=>a4k E e.m N keep call lf cur b F H k) n F H (λx F H=>bif e4l (keep cur)then k x (d64 e.m H F) (d45 e.m H)else k x F H)=some r) ?_ ?_ ⟨F,H,I,ρ,aj,ae⟩
  ·rintro n a w ⟨F,H,I,ρ,aj,ae⟩
   unfold b4o at ae;dsimp only at ae;rw[cond_eq_ite]at ae;split at ae
   case isFalse=>cases ae
   rename_i hc;simp only[d14,f8c,g0h]at hc;obtain⟨ρ',iy⟩:=(aj.keep (keep cur)).gc (b0h hc.1.1) hc.1.2;refine ih.1 az di.loop ?_ iy ae;intro x F H I ρ a w hn hk;have hz:∀x,(bif e4l (keep cur)then k x (d64 e.m H F) (d45 e.m H)else k x F H)=some r→Q x.conv a w:=by
    intro x hk;rw[cond_eq_ite]at hk;split at hk
    ·obtain⟨I',ρ',h'⟩:=hn.frz;exact hQ x _ _ I' ρ' a w h' hk
    ·exact hQ x F H I ρ a w hn hk
   cases x with
   |normal=>exact⟨F,H,I,ρ,hn,hk⟩
   |exit id=>exact hz _ hk
   |ret=>exact hz _ hk
  ·rintro a w ⟨F,H,I,ρ,_,ae⟩
   simp[b4o]at ae
 |scope b ih=>
  refine⟨?_,λ_ _ h=>by cases h⟩;intro az R cur di k r Q hQ F H I ρ a w aj ae;refine b0t (ih.1 az di.scope ?_ aj ae);intro x F H I ρ a w hn hk;cases x with
  |normal=>exact hQ .normal F H I ρ a w hn hk
  |exit id=>exact hQ (.exit id) F H I ρ a w hn hk
  |ret=>exact hQ .ret F H I ρ a w hn hk
 |rangeFunc f ps as b=>
  refine⟨λ_ R cur di k r Q hQ F H I ρ a w aj ae=>?_,λ_ _ h=>by cases h⟩;cases ro with
  |none=>exact f3x ok ak di hQ aj ae
  |some l=>have:=di.1 rfl;simp[b7s]at this
 |goto l=>exact⟨λ_ R cur di k r Q hQ F H I ρ a w aj ae=>by simp[a4k]at ae,λ_ _ h=>by cases h⟩
 |refuse s=>exact⟨λ_ R cur di k r Q hQ F H I ρ a w aj ae=>by simp[a4k]at ae,λ_ _ h=>by cases h⟩
theorem c1o(ok:EnvOk E){call:FuncId→List AV→a03→Option (AV×a03)}(ak:a4w E call){fid:Nat}{ro:Option Nat}{e:Entry}{N lf:Nat}{keep:Nat→List Nat}{R:Type}(c:Code)(hd:b04 c=true)
 {cur:Nat}(di:RFOk E fid N keep ro cur c){k:AExit→Frm→a03→Option R}{r:R}{Q:Exit→Act→World→Prop}(hQ:∀x F H I ρ a w,Now E e N F H I ρ a w→k x F H=some r→Q x.conv a w)
 {F:Frm}{H:a03}{I:Nat→Prop}{ρ:PMap}{a:Act}{w:World}(aj:Now E e N F H I ρ a w)(ae:a4k E e.m N keep call lf cur c F H k=some r):c.wpIn (wf ro) 0 E.P Q a w:=
 (d9g ok ak c).1 hd di hQ aj ae
/-! ### a round -/
theorem c80{I:Nat→Prop}{w:World}{ρ:PMap}{N:Nat}:∀{ps:List Nat} {vs:List AV} {cs:List Value} {F:Frm} {t:Array Value},FRel I w ρ N F t→VRels I w ρ vs cs→vs.length=ps.length→(∀p∈ps,p<N)→
 FRel I w ρ N (c58 F ps vs) ((ps.zip cs).foldl (λt (p,c)=>t.setIfInBounds p c) t)
 | [],[],cs,F,t,hF,h,_,_=>by simp only[VRels]at h;subst h;simpa[c58]using hF
 | [],_::_,_,_,_,_,_,h,_=>by simp at h
 |_::_,[],_,_,_,_,_,h,_=>by simp at h
 |p::ps,v::vs,cs,F,t,hF,h,hl,hp=>by simp only[VRels]at h;obtain⟨c,aO,rfl,h1,h2⟩:=h;simp only[c58,List.zip_cons_cons,List.foldl_cons];have:=FRel.set (a:={ tmps:=t,defers:=[] }) (d:=some p) hF (λs hs=>by cases hs;exact hp p (by simp)) h1;exact c80 this h2 (by simpa using hl) (λq hq=>hp q (by simp[hq]))
def f0g(E:Env):Prop:=∀y ri,E.G.rnd y=some ri→b04 ri.asg=true∧b04 ri.body=true∧b7s ri.asg=true∧b7s ri.body=true
theorem c5c(ok:EnvOk E)(qF:f0g E){call:FuncId→List AV→a03→Option (AV×a03)}(ak:a4w E call)(lf:Nat):b1g E yId (b0c E call lf):=by
 intro args H v H' ae I K ρ w ap rel hn ha;rw[e6g];unfold b0c at ae;split at ae
 case h_2=>cases ae
 rename_i b vs;split at ae
 case h_2=>cases ae
 rename_i y F hb;split at ae
 case h_2=>cases ae
 rename_i ri od;rw[cond_eq_ite]at ae;split at ae
 case isFalse=>cases ae
 rename_i hc;simp only[d14,g2e,f8c,f8f]at hc;obtain⟨ai,kB⟩:=hc;simp only[VRels]at ha;obtain⟨c0,p9,rfl,h0,fF⟩:=ha;simp only[VRel]at h0;obtain⟨m,hm,rfl⟩:=h0;obtain⟨m',bA,dL,gH,wa,r,g0,g1,g2,g3,g4,g5,g6,g7⟩:=rel.live b _ hb;obtain rfl:m=m':=z9o (hm.symm.trans bA);rw[od]at g0;cases g0;obtain⟨d1,d2,d3,d4⟩:=qF y ri od;have bU:p9.toArray.size=r.params.size:=by have:=VRels.length fF;rw[←f8d (xs:=r.params),g3];simp;omega
 refine⟨m.blk,p9,r.fn,_,r.assign,r.body,rfl,run_yield g1 bU,roundIn_of_wpIn (F:=Fence.wide) trivial ?_⟩;rw[g4]
 let e:Entry:=⟨I,K,ρ,H.length,w⟩
 have rH:b<H.length:=b22 hb;have rc:FRel I w ρ ri.N (c58 F ri.ps vs) ((r.params.zip p9.toArray).foldl (λtmps (t,a)=>tmps.setIfInBounds t a) r.tmps):=by
  have h1:FRel I w ρ ri.N F r.tmps:=⟨g2,λs=>by have:=g6 s;rwa [b5f]at this⟩
  have:=c80 (ps:=ri.ps) h1 fF ai kB;rw[←g3]at this⊢;rw[←Array.foldl_toList,Array.toList_zip];exact this
 have aj:Now E e ri.N (c58 F ri.ps vs) H I ρ { tmps:=(r.params.zip p9.toArray).foldl (λtmps (t,a)=>tmps.setIfInBounds t a) r.tmps,defers:=[] } w:=⟨λ_ h=>h,λ_ _=>rfl,Ext.refl _ _ _,rel,hn,rc,f6l _,Marks.nil⟩
 have rf:∀c,b7s c=true→RFOk E ri.fid ri.N (E.keep ri.fid) (some m.blk) 0 c:=λc h=>⟨λ_=>h,λx hx=>by rw[a7p c 0 h]at hx;cases hx⟩
 refine c1o (e:=e) (ro:=some m.blk) ok ak ri.asg d1 (rf _ d3) ?_ aj ae;intro x F1 H1 I1 ρ1 a1 w1 bH hk
 -- the record,wherever the run has come to
 have la:∀{F1 H1 I1 ρ1 a1 w1 y1 F0 st},Now E e ri.N F1 H1 I1 ρ1 a1 w1→a01 H1 b=some (.yloop y1 F0 st)→ρ1 b=some m∧∃r1:Loop,w1.heap[m.blk]?=some (.loop r1)∧(st = .ready→r1.state = .ready):=by
  intro F1 H1 I1 ρ1 a1 w1 y1 F0 st bH da;have iz:ρ1 b=some m:=by rw[bH.map b rH];exact hm
  obtain⟨m1,q1,_,_,_,r1,_,q2,_,_,_,_,_,q3⟩:=bH.rel.live b _ da;obtain rfl:m=m1:=z9o (iz.symm.trans q1);exact⟨iz,r1,q2,λe=>by subst e;exact q3.1⟩
 cases x with
 |exit id=>cases hk
 |ret=>cases hk
 |normal=>
  dsimp only at hk;split at hk
  case h_2=>cases hk
  rename_i v6 lU;obtain⟨y1,F0,da,rfl⟩:=c27 lU;obtain⟨iz,r1,ez,eP⟩:=la bH da;have eG:=bH.yput (new:=.busy) (r':={ r1 with state:=.busy }) da iz ez ⟨rfl,rfl,rfl,rfl⟩ rfl;refine⟨_,run_beginRound ez (eP rfl),?_⟩;rw[g5];refine c1o (e:=e) (ro:=some m.blk) ok ak ri.body d2 (rf _ d4) ?_ eG hk;intro x F3 H3 I3 ρ3 a3 w3 jM hk;have fin:∀(new:YSt) (bb:Bool) (jump:Option Code),jump.isNone=bb→(e21 H3 b .busy new).map (.bool bb,·)=some (v,H')→(match new with
   |.ready=>jump=none
   |.busy=>False
   |.done j=>jump=some (c7i j))→
   ∃v1 w4,(Instr.endRound m.blk jump).run E.P w3 = .ok v1 w4∧∃c I' ρ',Ending.returned v1 = .returned c∧Ret E I K ρ H.length w I' ρ' H' w4∧VRel I' w4 ρ' v c:=by
   intro new bb jump hj hk bf;obtain⟨H4,lU,he⟩:=a08 hk;cases he;obtain⟨y3,F4,tx,rfl⟩:=c27 lU;obtain⟨mi,r3,iW,_⟩:=la jM tx;have lw:=jM.yput (new:=new) (r':={ r3 with state:=if jump.isNone then .ready else .done,pending:=jump }) tx mi iW ⟨rfl,rfl,rfl,rfl⟩ (by
    cases new with
    |ready=>dsimp only at bf⊢;subst bf;exact⟨rfl,rfl⟩
    |busy=>exact bf.elim
    |done j=>dsimp only at bf⊢;subst bf;exact⟨rfl,rfl⟩)
   exact⟨_,_,run_endRound jump iW,_,I3,ρ3,rfl,⟨lw.imm,lw.map,lw.ext,lw.rel,lw.nrel,lw.low⟩,by simp only[VRel];rw[hj]⟩
  cases x with
  |normal=>exact fin .ready true none rfl hk rfl
  |ret=>exact fin (.done none) false (some .ret) rfl hk rfl
  |exit id=>exact fin (.done (some id)) false (some (.exit id)) rfl hk rfl
end
end Go.Ax
/- AxFun: functions. -/
namespace Go.Ax
section
variable {E:Env}{I K:Nat→Prop}{ρ:PMap}{h:FHeap}{w:World}
theorem d5o(ok:EnvOk E)(r:HRel E.G I K ρ h w){t:TypeId}{p v:AV}{c:Value}(hl:a7l E h t p=some v)(hp:VRel I w ρ p c) :
 ∃a d,c = .pointer (some a)∧(loadVar t a).run E.P w = .ok d w∧VRel I w ρ v d:=by
 cases p with
 |ptr b i o=>
  simp only[a7l]at hl;cases hb:h b with
  |none=>simp[hb]at hl
  |some ob=>
   cases ob with
   |row k aa=>
    simp only[hb]at hl;cases hr:aa[i]? with
    |none=>simp[hr]at hl
    |some rw'=>
     simp only[hr]at hl;obtain⟨m,hm,_,_,ho⟩:=r.live b _ hb;obtain⟨hk,hk0,_,aA⟩:=ho;obtain⟨ai,bg⟩:=VRows.get i aA hr;simp only[VRel]at hp;obtain⟨m',bA,rfl⟩:=hp;obtain rfl:m=m':=z9o (hm.symm.trans bA);by_cases bU:o≤rw'.length
     ·have j4:VAt I w ρ ((rw'.drop o).take (E.sz t)) m.blk (m.off+i*m.k+o):=by
       rw[hk];exact VAt.take _ (VAt.drop o bU bg)
      obtain⟨c,hc,hv⟩:=a8m ok hl j4;exact⟨_,c,rfl,hc,hv⟩
     ·have:rw'.drop o=[]:=g14 (by omega);rw[this]at hl;unfold a39 at hl;simp only[List.take_nil,f4o]at hl;rw[cond_eq_ite]at hl;split at hl
      ·rename_i h0;cases hd:E.und t with
       |none=>simp[hd]at hl
       |some d=>
        simp only[hd]at hl;have h0:E.sz t=0:=(show 0=E.sz t by simpa using h0).symm;cases d5:a2q d with
        |true=>simp[d5]at hl;subst hl;refine⟨_,.agg #[],rfl,?_,by simp only[VRel];exact⟨#[],rfl,by simp[VRels]⟩⟩;simp[loadVar,b5i ok w hd,d5,a3v ok w hd,h0,loadCells,loadCellsFrom]
        |false=>simp[d5]at hl
      ·cases hl
   |map ks vs bs cl=>simp[hb]at hl
   |siter s pos=>simp[hb]at hl
   |uset ks=>simp[hb]at hl
   |miter ks b9 bT=>simp[hb]at hl
   |yloop y Fy st=>simp[hb]at hl
 |iptr cs=>simp only[a7l]at hl;simp only[VRel]at hp;obtain⟨b,off,rfl,hI,bg⟩:=hp;obtain⟨c,hc,hv⟩:=a8m ok hl (VAt.take _ bg);exact⟨_,c,rfl,hc,VRel.noRef_any hv⟩
 |_=>simp[a7l]at hl
def f0x(tmps:Array Value):ResultVar→Sem Value:=fun
 |.tmp t=>pure (tmps.getD t undef)
 |.cell a t=>do loadVar t (←asAddr (tmps.getD a undef))
theorem b1f(ok:EnvOk E){H:a03}{F:Frm}{tmps:Array Value}(r:HRel E.G I K ρ (a01 H) w)(hF:∀s,VRel I w ρ (a34 F s) (tmps.getD s undef)) :
 ∀(rs:List ResultVar) {vs:List AV},a1h E F H rs=some vs→∃cs:List Value,(rs.mapM (f0x tmps)).run E.P w = .ok cs w∧VRels I w ρ vs cs
 | [],vs,ha=>by simp only[a1h,Option.some.injEq]at ha;subst ha;exact⟨[],by simp,by simp[VRels]⟩
 |.tmp t::rs,vs,ha=>by
  unfold a1h at ha;split at ha
  case h_2=>cases ha
  rename_i eE h1;cases ha;obtain⟨cs,h2,h3⟩:=b1f ok r hF rs h1;refine⟨tmps.getD t undef::cs,?_,by simp only[VRels];exact⟨_,_,rfl,hF t,h3⟩⟩;simp only[List.mapM_cons,f0x,Sem.run_bind,Sem.run_pure,Result.andThen_ok,h2]
 |.cell a t::rs,vs,ha=>by
  unfold a1h at ha;split at ha
  case h_2=>cases ha
  rename_i v eE h0 h1;cases ha;obtain⟨cs,h2,h3⟩:=b1f ok r hF rs h1;obtain⟨ad,d,h4,h5,h6⟩:=d5o ok r h0 (hF a);refine⟨d::cs,?_,by simp only[VRels];exact⟨_,_,rfl,h6,h3⟩⟩;simp only[List.mapM_cons,f0x,h4,asAddr,Sem.run_bind,Sem.run_pure,Result.andThen_ok,h2,h5]
theorem c92(ok:EnvOk E){fn:Func}{H:a03}{F:Frm}{tmps:Array Value}(r:HRel E.G I K ρ (a01 H) w)(hF:∀s,VRel I w ρ (a34 F s) (tmps.getD s undef)){vs:List AV}(ha:a1h E F H fn.results.toList=some vs) :
 ∃c,(results fn tmps).run E.P w = .ok c w∧VRel I w ρ (a5q vs) c:=by
 obtain⟨cs,h1,h2⟩:=b1f ok r hF _ ha;have ae:(results fn tmps).run E.P w = .ok (if h:cs.toArray.size=1 then cs.toArray[0]else .tuple cs.toArray) w:=by have:results fn tmps=(do let vs←fn.results.mapM (f0x tmps);pure (if h:vs.size=1 then vs[0]else .tuple vs)):=rfl;rw[this,Array.mapM_eq_mapM_toList];simp only[bind_map_left,Sem.run_bind,h1,Result.andThen_ok,Sem.run_pure]
 refine⟨_,ae,?_⟩
 match vs,cs,h2 with
 | [],cs,h2=>simp only[VRels]at h2;subst h2;simp only[a5q,VRel];exact⟨#[],by simp,by simp[VRels]⟩
 | [v],cs,h2=>simp only[VRels]at h2;obtain⟨c,aO,rfl,h3,rfl⟩:=h2;simpa[a5q]using h3
 |v::v'::vs,cs,h2=>have eo:=h2;simp only[VRels]at h2;obtain⟨c,_,rfl,_,c',aO,rfl,_,_⟩:=h2;simp only[a5q,VRel];exact⟨_,by simp,eo⟩
theorem b9b:∀(args:List AV) (i s:Nat),a34 (a5u i args) s=if i≤s then(args[s-i]?).getD .junk else .junk
 | [],i,s=>by simp[a5u,a34]
 |v::vs,i,s=>by
  simp only[a5u,a34,d63,b9b vs (i+1) s];by_cases h:i=s
  ·subst h;simp
  ·rw[f9i.2 h];by_cases h1:i<s
   ·simp only[f7z];rw[f6e (by omega),f6e (by omega),show s-i=(s-(i+1))+1 by omega,f8h]
   ·simp only[f7z];rw[f4n (by omega),f4n (by omega)]
theorem d4l{args:List AV}{ap:List Value}{n:Nat}(hn:args.length≤n)(h:VRels I w ρ args ap):FRel I w ρ n (a5u 0 args) (ap.toArray++Array.replicate (n-ap.toArray.size) undef):=by
 have ai:=VRels.length h;refine⟨by simp;omega,λs=>?_⟩;rw[b9b];simp only[f4m,f9q,Nat.sub_zero];cases hs:args[s]? with
 |none=>simp[VRel]
 |some v=>have ir:=(c13.1 hs).1;obtain⟨c,hc,hv⟩:=VRels.get s h hs;simp only[f9l,f8i];rw[Array.getElem?_append_left (by simp;omega)];simp only[g02,hc,f9l];exact hv
theorem e1f{m:Nat}{v v':AV}{c:Value}{H:a03}(gK:a4j m true (a54 (a01 H) m 12) v=some v')(hm:m≤H.length)(r:HRel E.G I K ρ (a01 H) w)(hn:NRel ρ H.length)(hv:VRel I w ρ v c) :
 ∃I' ρ',(∀c,I c→I' c)∧(∀b,b<m→ρ' b=ρ b)∧HRel E.G I' K ρ' (a01 ((H.take m).map (Option.map (a0t (a1z m))))) w∧NRel ρ' ((H.take m).map (Option.map (a0t (a1z m)))).length∧m≤((H.take m).map (Option.map (a0t (a1z m)))).length∧VRel I' w ρ' v' c:=by
 have ai:((H.take m).map (Option.map (a0t (a1z m)))).length=m:=by simp;omega
 obtain⟨h1,h2⟩:=b23 (h':=a01 ((H.take m).map (Option.map (a0t (a1z m))))) r gK hv (by
  intro b o' hb;simp only[a01,f4q,g0s]at hb;split at hb
  case isFalse=>simp at hb
  rename_i ah;cases hx:H[b]? with
  |none=>rw[hx]at hb;simp at hb
  |some ob=>rw[hx]at hb;simp only[f5x,g0o]at hb;obtain⟨o,rfl,rfl⟩:=a08 hb;exact⟨o,ah,by simp[a01,hx],rfl⟩)
 refine⟨_,_,λ_ h=>.inl h,λb hb=>by simp[PMap.below,hb],h1,?_,by rw[ai];exact f6l _,h2⟩;intro b hb;rw[ai]at hb;simp only[PMap.below];rw[f4n (by omega)]
theorem e3q{m:Nat}{v v':AV}{c:Value}{H H':a03}(hf:e73 m v H=some (v',H'))(hm:m≤H.length)(r:HRel E.G I K ρ (a01 H) w)(hn:NRel ρ H.length)(hv:VRel I w ρ v c) :
 ∃I' ρ',(∀c,I c→I' c)∧(∀b,b<m→ρ' b=ρ b)∧HRel E.G I' K ρ' (a01 H') w∧NRel ρ' H'.length∧m≤H'.length∧VRel I' w ρ' v' c:=by
 unfold e73 at hf;split at hf
 case h_2=>cases hf;exact⟨I,ρ,λ_ h=>h,λ_ _=>rfl,r,hn,hm,hv⟩
 case h_3=>cases hf;exact⟨I,ρ,λ_ h=>h,λ_ _=>rfl,r,hn,hm,hv⟩
 case h_4=>cases hf;exact⟨I,ρ,λ_ h=>h,λ_ _=>rfl,r,hn,hm,hv⟩
 case h_5=>cases hf;exact⟨I,ρ,λ_ h=>h,λ_ _=>rfl,r,hn,hm,hv⟩
 case h_6=>cases hf;obtain⟨I',ρ',f⟩:=e1f (v:=.nilslice) (v':=.nilslice) rfl hm r hn hv;exact⟨I',ρ',f⟩
 case h_7=>cases hf
 rename_i b i o;rw[cond_eq_ite]at hf;split at hf
 case isFalse=>cases hf
 rename_i pE;rw[g0h]at pE;split at hf
 case h_2=>cases hf
 rename_i k aa hb;split at hf
 case h_2=>cases hf
 rename_i cE gK;cases hf;simp only[VRel]at hv;obtain⟨p,hp,rfl⟩:=hv;obtain⟨p',iv,dL,gH,hk,hk0,⟨cL,e,pO,rK,vn⟩,aA⟩:=r.live b _ hb;obtain rfl:p=p':=z9o (hp.symm.trans iv);have pu:∀x,a56 (a01 H) b x=if x=b then none else a01 H x:=by
  intro x;unfold a56;by_cases h:x=b
  ·subst h;rw[f6e rfl,show Nat.beq x x=true from Nat.beq_refl x];rfl
  ·rw[f4n h,show Nat.beq x b=false from by
    cases hq:Nat.beq x b with
    |false=>rfl
    |true=>exact absurd (g03 hq) h]
   rfl
 have r0:HRel E.G I K ρ (a56 (a01 H) b) w:=r.fewer (λx ob hx=>by
  rw[pu]at hx;split at hx
  ·cases hx
  ·exact hx)
 have ai:((H.take m).map (Option.map (a0t (a1z m)))).length=m:=by simp;omega
 have cN:∀x o',a01 ((H.take m).map (Option.map (a0t (a1z m)))) x=some o'→∃o,x<m∧a56 (a01 H) b x=some o∧o'=a0t (a1z m) o:=by
  intro x o' hx;simp only[a01,f4q,g0s]at hx;split at hx
  case isFalse=>simp at hx
  rename_i ah;cases hxx:H[x]? with
  |none=>rw[hxx]at hx;simp at hx
  |some ob=>rw[hxx]at hx;simp only[f5x,g0o]at hx;obtain⟨o,rfl,rfl⟩:=a08 hx;exact⟨o,ah,by rw[pu,f4n (by omega)];simp[a01,hxx],rfl⟩
 have h1:=(b23 (h':=a01 ((H.take m).map (Option.map (a0t (a1z m))))) r0 (v:=.junk) (v':=.junk) (c:=.nilFunc) (n:=12) (m:=m) rfl (by simp[VRel]) cN).1;have uN:¬a52 I ρ (a56 (a01 H) b) m p.blk:=by
  rintro(hc|⟨b',o',q,bq,d8,hq,he⟩)
  ·exact dL hc
  ·rw[pu]at d8;split at d8
   ·cases d8
   ·rename_i aF;exact aF (r.inj b' b q p (by simp[d8]) (by simp[hb]) hq hp he)
 have hI:∀c,I c→a52 I ρ (a56 (a01 H) b) m c:=λc hc=>.inl hc;have eW:=d43 hI (a8d r0 12) aa gK aA
 let ρ':PMap:=λx=>if x=m then some p else ρ.below m true x
 have hρ:∀x q,ρ.below m true x=some q→ρ' x=some q:=by
  intro x q hx;have ah:x<m:=by
   simp only[PMap.below]at hx;split at hx
   ·rename_i h;exact h.2
   ·cases hx
  show(if x=m then some p else ρ.below m true x)=some q;rw[f4n (by omega)];exact hx
 have tL:∀x,a01 ((H.take m).map (Option.map (a0t (a1z m)))++[some (.row k cE)]) x=if x=m then some (.row k cE)else a01 ((H.take m).map (Option.map (a0t (a1z m)))) x:=by
  intro x;unfold a01;by_cases hx:x<m
  ·rw[f6d (by rw[ai];exact hx),f4n (by omega)]
  ·rw[f8k (by rw[ai];omega),ai];by_cases dK:x=m
   ·subst dK;rw[f6e rfl,Nat.sub_self];rfl
   ·rw[f4n dK];have e1:([some (AObj.row k cE)]:a03)[x-m]?=none:=f6h (by simp;omega);have e2:((H.take m).map (Option.map (a0t (a1z m))))[x]?=none:=f6h (by rw[ai];omega);rw[e1,e2]
 refine⟨a52 I ρ (a56 (a01 H) b) m,ρ',hI,?_,?_,?_,?_,?_⟩
 ·intro x hx;show(if x=m then some p else ρ.below m true x)=ρ x;rw[f4n (by omega)];simp[PMap.below,hx]
 ·refine⟨?_,?_,?_,h1.imm,h1.kept,h1.apart,?_⟩
  ·intro x ob hx;rw[tL]at hx;split at hx
   ·rename_i dK;cases hx;refine⟨p,by show(if x=m then some p else _)=some p;rw[f6e dK],uN,gH,hk,hk0,⟨cL,e,pO,rK,by rw[b6p gK];exact vn⟩,?_⟩;exact VRows.mono (λ_ h=>h) (λ_ _=>rfl) cE hρ rfl eW
   ·obtain⟨q,hq,h3,h4,h5⟩:=h1.live x ob hx;exact⟨q,hρ x q hq,h3,h4,ORel.mono ob (λ_ h=>h) (λ_ _=>rfl) hρ rfl h5⟩
  ·intro x y q q' hx hy sP qH he;rw[tL]at hx hy;have low:∀z q,z≠m→(a01 ((H.take m).map (Option.map (a0t (a1z m)))) z).isSome→ρ' z=some q→ρ.below m true z=some q∧z<m∧ρ z=some q∧(a01 H z).isSome:=by
    intro z q hz hs hq;have iX:ρ.below m true z=some q:=by have:(if z=m then some p else ρ.below m true z)=some q:=hq;rw[f4n hz]at this;exact this
    obtain⟨ob,ho⟩:=f4k.1 hs;obtain⟨o1,ah,dX,_⟩:=cN z ob ho;rw[pu,f4n (by omega)]at dX;refine⟨iX,ah,?_,by rw[dX];rfl⟩;simp only[PMap.below]at iX;rw[f6e ⟨trivial,ah⟩]at iX;exact iX
   by_cases dK:x=m
   ·by_cases lV:y=m
    ·rw[dK,lV]
    ·exfalso;rw[f4n lV]at hy;obtain⟨_,h4,h5,h6⟩:=low y q' lV hy qH;have qI:q=p:=by
      have:(if x=m then some p else ρ.below m true x)=some q:=sP;rw[f6e dK]at this;exact(z9o this).symm
     subst qI;have:=r.inj b y q q' (by simp[hb]) h6 hp h5 he;omega
   ·rw[f4n dK]at hx;obtain⟨h3,h4,h5,h6⟩:=low x q dK hx sP;by_cases lV:y=m
    ·exfalso;have qI:q'=p:=by
      have:(if y=m then some p else ρ.below m true y)=some q':=qH;rw[f6e lV]at this;exact(z9o this).symm
     subst qI;have:=r.inj x b q q' h6 (by simp[hb]) h5 hp he;omega
    ·rw[f4n lV]at hy;obtain⟨g3,_⟩:=low y q' lV hy qH;exact h1.inj x y q q' hx hy h3 g3 he
  ·intro x q hx;have:(if x=m then some p else ρ.below m true x)=some q:=hx;split at this
   ·cases this;exact r.dom b p hp
   ·exact h1.dom x q this
  ·intro g cs hg;exact h1.glob g cs hg
 ·intro x hx;rw[f5z,ai]at hx;simp only[e12,f4o]at hx;show(if x=m then some p else ρ.below m true x)=none;rw[f4n (by omega)];simp only[PMap.below];rw[f4n (by omega)]
 ·rw[f5z,ai];omega
 ·simp only[VRel];exact⟨p,by show(if m=m then some p else _)=some p;rw[f6e rfl],rfl⟩
theorem d4c{thaw:Bool}{m:Nat}{v v':AV}{c:Value}{H H':a03}(hf:a1f thaw m v H=some (v',H'))(hm:m≤H.length)(r:HRel E.G I K ρ (a01 H) w)(hn:NRel ρ H.length)(hv:VRel I w ρ v c) :
 ∃I' ρ',(∀c,I c→I' c)∧(∀b,b<m→ρ' b=ρ b)∧HRel E.G I' K ρ' (a01 H') w∧NRel ρ' H'.length∧m≤H'.length∧VRel I' w ρ' v' c:=by
 unfold a1f at hf;rw[cond_eq_ite]at hf;split at hf
 ·rw[cond_eq_ite]at hf;split at hf
  ·exact e3q hf hm r hn hv
  ·cases hf;exact⟨I,ρ,λ_ h=>h,λ_ _=>rfl,r,hn,hm,hv⟩
 ·split at hf
  case h_2=>cases hf;exact⟨I,ρ,λ_ h=>h,λ_ _=>rfl,r,hn,hm,hv⟩
  rename_i v1 gK;cases hf;exact e1f gK hm r hn hv
end
structure DrOk(E:Env):Prop where
 draws:∀f i,E.fn f=some i→b04 i.code=true
 rf:∀f i,E.fn f=some i→∀x∈rfs i.ntmps f 0 i.code,∃y,yOf (E.keep f x.1)=some y∧E.G.rnd y=some x.2
 rnd:f0g E
 prim:∀f args v H1,E.prim f args=some (v,H1)→b1g E f λa H=>match a,H with
  |a,[]=>E.prim f a
  |_,_=>none
theorem DrOk.code{E:Env}(h:DrOk E){f:FuncId}{i:FInfo}(hi:E.fn f=some i):RFOk E f i.ntmps (E.keep f) none 0 i.code:=⟨λh=>by simp at h,h.rf f i hi⟩
def f6x(E:Env)(g:FuncId)(m:Nat)(rs:List ResultVar):AExit→Frm→a03→Option (AV×a03)
 |.exit _,_,_=>none
 |_,F,H=>match a1h E F H rs with
  |some vs=>a1f (E.thaw g) m (a5q vs) H
  |none=>none
theorem e9d{E:Env}(ok:EnvOk E){g:FuncId}{i:FInfo}(hi:E.fn g=some i){args:List AV}{H H':a03}{v:AV}(bC:Nat.ble args.length i.ntmps=true)
 {k:AExit→Frm→a03→Option (AV×a03)}(oG:∀x F1 H1 r,k x F1 H1=some r→f6x E g H.length i.results x F1 H1=some r)
 (oV:∀{e:Entry} {Q:Exit→Act→World→Prop},e.m=H.length→(∀x F1 H1 I ρ a w,Now E e i.ntmps F1 H1 I ρ a w→k x F1 H1=some (v,H')→Q x.conv a w)→
  ∀{I:Nat→Prop} {ρ:PMap} {a:Act} {w:World},Now E e i.ntmps (a5u 0 args) H I ρ a w→i.code.wpIn (wf none) 0 E.P Q a w)
 {I K:Nat→Prop}{ρ:PMap}{w:World}{ap:List Value}(rel:HRel E.G I K ρ (a01 H) w)(hn:NRel ρ H.length)(ha:VRels I w ρ args ap) :
 XOf E g ap w λen w'=>∃c I' ρ',en = .returned c∧Ret E I K ρ H.length w I' ρ' H' w'∧VRel I' w' ρ' v c:=by
 obtain⟨fn,h1,h2,h3,h4,_⟩:=ok.fn g i hi;rw[b4i (c9w ok hi)];refine callsIn_wide.1 (callsIn_of_wp_marks (F:=Fence.wide) (n:=0) h1 h2 trivial ?_);rw[h3]
 let e:Entry:=⟨I,K,ρ,H.length,w⟩
 have aj:Now E e i.ntmps (a5u 0 args) H I ρ { tmps:=ap.toArray++Array.replicate (i.ntmps-ap.toArray.size) undef,defers:=[] } w:=⟨λ_ h=>h,λ_ _=>rfl,Ext.refl _ _ _,rel,hn,d4l (by simpa[g0h]using bC) ha,f6l _,Marks.nil⟩
 refine oV (e:=e) rfl ?_ aj;intro x F1 H1 I1 ρ1 a w1 bH hk;have hk:=oG _ _ _ _ hk;have fin:(match a1h E F1 H1 i.results with
  |some vs=>a1f (E.thaw g) H.length (a5q vs) H1
  |none=>none)=some (v,H')→LeavesInM Fence.wide 0 E.P fn a.tmps (λen w'=>∃c I' ρ',en = .returned c∧Ret E I K ρ H.length w I' ρ' H' w'∧VRel I' w' ρ' v c) a.defers .returning w1:=by
  intro hk;split at hk
  case h_2=>cases hk
  rename_i vs fF;rw[←h4]at fF;obtain⟨rs,q1,q2,q3⟩:=bH.marks;rw[q1];refine b43 rs w1 q2 (λr hr=>(q3 r hr).2.2) ?_;obtain⟨s1,s2,s3,s4,s5⟩:=b3z rs w1;have nC:HRel E.G I1 K ρ1 (a01 H1) (a3e rs w1):=HRel.shut bH.rel (S:=(·∈rs)) (λc hc=>⟨(q3 c hc).1,_,(q3 c hc).2.2⟩) s1 s5;have hD:∀c,SameD w1 (a3e rs w1) c:=by
   intro c;by_cases hc:c∈rs
   ·exact .inr ⟨_,(q3 c hc).2.2⟩
   ·exact .inl (s5 c hc)
  have rV:∀s,VRel I1 (a3e rs w1) ρ1 (a34 F1 s) (a.tmps.getD s undef):=λs=>VRel.monoD (λc _=>hD c) _ (bH.frm.2 s);have rW:Ext I K w (a3e rs w1):=by refine⟨by rw[s3];exact bH.ext.os,by rw[s2];exact bH.ext.tape,by rw[s4];exact bH.ext.output,by rw[s1];exact bH.ext.size,λc hc=>?_⟩;have ah:c<w.heap.size:=hc.elim (rel.imm c) (rel.kept c);rw[s5 c (λhm=>by have h:w.heap.size≤c:=(q3 c hm).2.1;omega)];exact bH.ext.keep c hc
  obtain⟨c,hr,hv⟩:=c92 ok nC rV fF;obtain⟨I2,ρ2,f1,f2,f3,f4,f5,f6⟩:=d4c hk bH.low nC bH.nrel hv;exact⟨c,hr,c,I2,ρ2,rfl,⟨λc hc=>f1 c (bH.imm c hc),λb hb=>by rw[f2 b hb];exact bH.map b hb,rW,f3,f4,f5⟩,f6⟩
 cases x with
 |normal=>exact fin hk
 |exit id=>cases hk
 |ret=>exact fin hk
end Go.Ax
/- AxLive: which slots are read from a loop's head on. Definitions only: nothing rests on them. -/
namespace Go.Ax
def e8c:List (Nat×List Nat)→Nat→List Nat
 | [],_=>[]
 |(i,l)::r,j=>bif Nat.beq i j then l else e8c r j
end Go.Ax
/- AxInst: the tables of the evaluator, read off a program. -/
namespace Go.Ax
/-! ### tables that are searched -/
inductive Tab(α:Type) where
 |nil
 |node (l:Tab α)(k:Nat)(v:α)(r:Tab α)
def Tab.get{α:Type}:Tab α→Nat→Option α
 |.nil,_=>none
 |.node l k v r,i=>bif Nat.blt i k then l.get i else bif Nat.beq i k then some v else r.get i
def Tab.all{α:Type}(p:Nat→α→Bool):Tab α→Bool
 |.nil=>true
 |.node l k v r=>p k v&&l.all p&&r.all p
theorem Tab.all_get{α:Type}{p:Nat→α→Bool}:∀{t:Tab α} {i:Nat} {x:α},t.all p=true→t.get i=some x→p i x=true
 |.nil,i,x,_,h=>by simp[Tab.get]at h
 |.node l k v r,i,x,ha,h=>by
  simp only[Tab.all,d14]at ha;simp only[Tab.get,cond_eq_ite]at h;split at h
  ·exact Tab.all_get ha.1.2 h
  ·split at h
   ·rename_i hk;have:i=k:=by simpa using hk
    cases h;subst this;exact ha.1.1
   ·exact Tab.all_get ha.2 h
def Tab.toList{α:Type}:Tab α→List α
 |.nil=>[]
 |.node l _ v r=>l.toList++v::r.toList
def Tab.from{α:Type}:Nat→Tab α→Option Nat
 |lo,.nil=>some lo
 |lo,.node l k _ r=>match l.from lo with
  |some n=>bif Nat.beq n k then r.from (k+1)else none
  |none=>none
theorem Tab.from_len{α:Type}:∀{t:Tab α} {lo n:Nat},t.from lo=some n→n=lo+t.toList.length
 |.nil,lo,n,h=>by simp only[Tab.from,Option.some.injEq]at h;simp[Tab.toList,h]
 |.node l k v r,lo,n,h=>by
  unfold Tab.from at h;split at h
  case h_2=>cases h
  rename_i m hm;rw[cond_eq_ite]at h;split at h
  case isFalse=>cases h
  rename_i hk;have hk:m=k:=by simpa using hk
  have h1:=Tab.from_len hm;have h2:=Tab.from_len h;simp[Tab.toList];omega
theorem Tab.get_from{α:Type}:∀{t:Tab α} {lo n i:Nat} {x:α},t.from lo=some n→t.get i=some x→lo≤i∧t.toList[i-lo]?=some x
 |.nil,lo,n,i,x,_,h=>by simp[Tab.get]at h
 |.node l k v r,lo,n,i,x,hf,h=>by
  unfold Tab.from at hf;split at hf
  case h_2=>cases hf
  rename_i m hm;rw[cond_eq_ite]at hf;split at hf
  case isFalse=>cases hf
  rename_i hk;have hk:m=k:=by simpa using hk
  subst hk;have hl:=Tab.from_len hm;simp only[Tab.get,cond_eq_ite]at h;split at h
  ·rename_i ah;obtain⟨h1,h2⟩:=Tab.get_from hm h;have ah:i<m:=by simpa[f8f]using ah
   refine⟨h1,?_⟩;simp only[Tab.toList];rw[f6d (by omega)];exact h2
  ·split at h
   ·rename_i hk;have:i=m:=by simpa using hk
    cases h;subst this;refine⟨by omega,?_⟩;simp only[Tab.toList];rw[f8k (by omega),show i-lo-l.toList.length=0 by omega];rfl
   ·obtain⟨h1,h2⟩:=Tab.get_from hf h;refine⟨by omega,?_⟩;simp only[Tab.toList];rw[f8k (by omega),show i-lo-l.toList.length=(i-(m+1))+1 by omega,f8h];exact h2
/-! ### the tables of a program -/
def e0j(T:Tab TypeInfo)(t:TypeId):Option TypeDesc:=
 match T.get t with
 |some i=>match i.desc with
  |.named _ u=>match T.get u with
   |some j=>some j.desc
   |none=>none
  |d=>some d
 |none=>none
def e1z(T:Tab TypeInfo)(t:TypeId):Option (List AV):=
 match T.get t with
 |some i=>match i.zero with
  |some z=>bif (e0j T t).isSome&&Nat.beq z.cells.toList.length i.size then some (z.cells.toList.map a4p)else none
  |none=>none
 |none=>none
def e9h(P:Program)(T:Tab TypeInfo)(t:TypeId):Bool:=
 !(P.eqGuardType P.depth t) && !(P.stoodInHeld t)&&(match T.get t with|some i=>i.comparable|none=>false) &&
  (match e0j T t with|some (.struct fs)=>fs.toList.all (λf=>!(f.name == "_"))|_=>true)
def e0t(T:Tab TypeInfo)(t:Nat)(i:TypeInfo):Bool:=
 match e0j T t,i.zero with
 |some d,some (.agg _)=>a2q d
 |some d,some _=>!(a2q d)
 |_,_=>true
structure Laid where
 P:Program
 T:Tab TypeInfo
 F:Tab Func
 keep:Tab (List (Nat×List Nat))
 eqs:Tab Bool
 G:Nat→Option (List AV)
 thaw:Nat→Bool
 ro:Nat→Bool
 ext:Nat→Bool
 lend:Nat→Bool:=λ_=>false
 prim:Nat→List AV→Option (AV×a03):=λ_ _=>none
 zf:Nat→Bool:=λ_=>false
def Laid.rnd(L:Laid)(y:Nat):Option RInfo:=match L.F.get (y/100000)with
 |some fn=>match fn.body with
  |some c=>b67 (y%100000) (rfs fn.ntmps (y/100000) 0 c)
  |none=>none
 |none=>none
def c76(keep:Nat→List Nat)(f:Nat)(l:List (Nat×RInfo)):Bool:=a6g (l.map (·.1))&&l.all λx=>Nat.blt x.1 100000&&(match yOf (keep x.1)with|some y=>Nat.beq y (f*100000+x.1)|none=>false)&&b04 x.2.asg&&b04 x.2.body&&b7s x.2.asg&&b7s x.2.body
def Laid.env(L:Laid):Env:={
 P:=L.P
 und:=e0j L.T
 sz:=λt=>match L.T.get t with|some i=>i.size|none=>0
 bytes:=λt=>match L.T.get t with|some i=>i.bytes|none=>0
 zero:=e1z L.T
 eqok:=λt=>match L.eqs.get t with|some b=>b|none=>false
 G:=⟨L.G,L.rnd⟩
 fn:=λf=>match L.F.get f with
  |some fn=>match fn.body with
   |some c=>some ⟨c,fn.ntmps,fn.results.toList⟩
   |none=>none
  |none=>none
 keep:=λf=>match L.keep.get f with|some l=>e8c l|none=>λ_=>[]
 thaw:=L.thaw
 ro:=L.ro
 ext:=λf=>L.ext f||(L.lend f&&(match L.F.get f with|some fn=>fn.body.isSome|none=>false))
 prim:=L.prim
 zf:=L.zf }
structure LaidOk(L:Laid):Prop where
 types:∀i x,L.T.get i=some x→L.P.types[i]?=some x
 funcs:∀i x,L.F.get i=some x→L.P.funcs[i]?=some x
 shape:L.T.all (e0t L.T)=true
 names:L.F.all (λ_ fn=>!(fn.name == "runtime.NumGoroutine"))=true
 eqs:L.eqs.all (λt b=>!b||e9h L.P L.T t)=true
 ext:∀f,L.ext f=true→∃fn,L.P.funcs[f]?=some fn∧fn.body=none∧(fn.name == "runtime.NumGoroutine")=false∧Extern.findNext fn=none∧Extern.find fn=some Extern.BytealgIndexByte.indexByte
 mixed:L.P.follows .mixedOrders=true
 draws:L.F.all (λ_ fn=>match fn.body with|some c=>b04 c|none=>true)=true
 yid:(L.F.get yId).isNone=true
 rf:L.F.all (λf fn=>match fn.body with|some c=>c76 (L.env.keep f) f (rfs fn.ntmps f 0 c)|none=>true)=true
theorem b9a{α:Type}{t:Tab α}{l:List α}{n:Nat}(h1:t.from 0=some n)(h2:t.toList=l):∀i x,t.get i=some x→l.toArray[i]?=some x:=by intro i x h;obtain⟨_,h3⟩:=Tab.get_from h1 h;rw[h2]at h3;simpa using h3
section
variable {L:Laid}(ok:LaidOk L)
include ok
theorem b3b{t:Nat}{i:TypeInfo}(h:L.T.get t=some i):L.P.info? t=some i:=by have h1:=ok.types t i h;have h2:=(f8m.1 h1).1;show(if t<L.P.types.size then L.P.types[t]? else _)=_;rw[f6e h2];exact h1
theorem e0i{t:Nat}{d:TypeDesc}(h:e0j L.T t=some d):L.P.underlying t=some d∧∃i,L.T.get t=some i:=by
 unfold e0j at h;split at h
 case h_2=>cases h
 rename_i i hi;refine⟨?_,i,hi⟩;have h1:=b3b ok hi;unfold Program.underlying;rw[h1];split at h
 ·rename_i nm u hd;split at h
  case h_2=>cases h
  rename_i j hj;cases h;have h2:=b3b ok hj;cases i;simp only at hd;subst hd;simp[h2]
 ·rename_i d' aF;cases h;cases i;rename_i dd _ _ _ _ _ _ _ _ _;cases dd<;>first|rfl|exact absurd rfl (aF _ _)
theorem LaidOk.envOk:EnvOk L.env where
 und t d h:=by obtain⟨h1,i,hi⟩:=e0i ok h;exact⟨h1,i,b3b ok hi,by simp[Laid.env,hi],by simp[Laid.env,hi]⟩
 zero t cs h:=by
  have h:e1z L.T t=some cs:=h;unfold e1z at h;split at h
  case h_2=>cases h
  rename_i i hi;split at h
  case h_2=>cases h
  rename_i z hz;rw[cond_eq_ite]at h;split at h
  case isFalse=>cases h
  rename_i hc;simp only[d14,g2e]at hc;cases h;refine⟨f4k.1 hc.1,i,z,b3b ok hi,hz,by simp[Laid.env,hi,hc.2],λI w=>a92 _⟩
 zshape t d i z hd hi hz:=by
  obtain⟨_,j,hj⟩:=e0i ok hd;have iC:=b3b ok hj;have:i=j:=z9o (hi.symm.trans iC);subst this;have hs:=Tab.all_get ok.shape hj;have hd:e0j L.T t=some d:=hd;simp only[e0t,hd,hz]at hs;cases z with
  |agg a=>simp only at hs;exact⟨λ_=>⟨a,rfl⟩,λh=>by rw[hs]at h;cases h⟩
  |_=>simp only[f9y]at hs;exact⟨λh=>(by rw[hs]at h;cases h),λ_=>rfl⟩
 eqok t h:=by
  have h:(match L.eqs.get t with|some b=>b|none=>false)=true:=h;split at h
  case h_2=>cases h
  rename_i b hb;subst h;have h:=Tab.all_get ok.eqs hb;simp only[g17,Bool.false_or,e9h,d14,f9y]at h;obtain⟨⟨⟨h1,h2⟩,h3⟩,h4⟩:=h;refine⟨h1,h2,?_,?_⟩
  ·split at h3
   ·rename_i i hi;exact⟨i,b3b ok hi,h3⟩
   ·cases h3
  ·intro fs gJ f hf;have gJ:e0j L.T t=some (.struct fs):=gJ;rw[gJ]at h4;simp only[f8c,f9y,f9i]at h4;exact h4 f hf
 fn f i h:=by
  have h:(match L.F.get f with
   |some fn=>match fn.body with
    |some c=>some (⟨c,fn.ntmps,fn.results.toList⟩:FInfo)
    |none=>none
   |none=>none)=some i:=h
  split at h
  case h_2=>cases h
  rename_i fn cj;split at h
  case h_2=>cases h
  rename_i c hc;cases h;have hn:=Tab.all_get ok.names cj;exact⟨fn,ok.funcs f fn cj,hc,rfl,rfl,by simpa using hn⟩
 ext f h cj:=by
  have h:(L.ext f||(L.lend f&&(match L.F.get f with|some fn=>fn.body.isSome|none=>false)))=true:=h;have cj:(match L.F.get f with
   |some fn=>match fn.body with
    |some c=>some (⟨c,fn.ntmps,fn.results.toList⟩:FInfo)
    |none=>none
   |none=>none).isSome=false:=cj
  rcases Bool.or_eq_true_iff.1 h with h|h
  ·exact ok.ext f h
  ·exfalso;have h:=(Bool.and_eq_true_iff.1 h).2;cases hx:L.F.get f with
   |none=>rw[hx]at h;cases h
   |some fn=>
    rw[hx]at h cj;cases hb:fn.body with
    |none=>simp[hb]at h
    |some c=>simp[hb]at cj
 mixed:=ok.mixed
 yid:=by
  have h:=ok.yid;show(match L.F.get yId with
   |some fn=>match fn.body with
    |some c=>some (⟨c,fn.ntmps,fn.results.toList⟩:FInfo)
    |none=>none
   |none=>none)=none
  cases hx:L.F.get yId with
  |none=>rfl
  |some fn=>rw[hx]at h;cases h
omit ok in
theorem Laid.fn_inv{f:Nat}{i:FInfo}(h:L.env.fn f=some i):∃fn c,L.F.get f=some fn∧fn.body=some c∧i=⟨c,fn.ntmps,fn.results.toList⟩:=by
 have h:(match L.F.get f with
  |some fn=>match fn.body with
   |some c=>some (⟨c,fn.ntmps,fn.results.toList⟩:FInfo)
   |none=>none
  |none=>none)=some i:=h
 split at h
 case h_2=>cases h
 rename_i fn cj;split at h
 case h_2=>cases h
 rename_i c hc;cases h;exact⟨fn,c,cj,hc,rfl⟩
omit ok in
theorem b8x{cur:Nat}{ri:RInfo}:∀{l:List (Nat×RInfo)},b67 cur l=some ri→(cur,ri)∈l
 | [],h=>by simp[b67]at h
 |(c,r)::l,h=>by
  simp only[b67,cond_eq_ite]at h;split at h
  ·rename_i hc;have hc:=g03 hc;cases h;subst hc;simp
  ·exact g12 _ (b8x h)
omit ok in
theorem c34{x:Nat×RInfo}:∀{l:List (Nat×RInfo)},(l.map (·.1)).Nodup→x∈l→b67 x.1 l=some x.2
 | [],_,h=>by cases h
 |(c,r)::l,hn,h=>by
  simp only[c10]at hn;have hn:=g0m.1 hn;simp only[b67,cond_eq_ite];rcases f6m.1 h with rfl|h
  ·simp
  ·have aF:c≠x.1:=λe=>hn.1 (by rw[e];exact f9w h);rw[f4n (by rw[g2e];exact aF)];exact c34 hn.2 h
theorem LaidOk.good{f:Nat}{fn:Func}{c:Code}(cj:L.F.get f=some fn)(hc:fn.body=some c):c76 (L.env.keep f) f (rfs fn.ntmps f 0 c)=true:=by have:=Tab.all_get ok.rf cj;simpa[hc]using this
def e1x(L:Laid):Prop:=∀f args v H1,L.prim f args=some (v,H1)→b1g L.env f λa H=>match a,H with
 |a,[]=>L.env.prim f a
 |_,_=>none
theorem LaidOk.drawnP(hP:e1x L):DrOk L.env where
 prim:=hP
 draws f i h:=by obtain⟨fn,c,cj,hc,rfl⟩:=Laid.fn_inv h;have:=Tab.all_get ok.draws cj;simpa[hc]using this
 rf f i h x hx:=by
  obtain⟨fn,c,cj,hc,rfl⟩:=Laid.fn_inv h;have hg:=ok.good cj hc;simp only[c76,d14,f8c]at hg;have jw:=hg.2 x hx;obtain⟨⟨⟨⟨⟨h1,h2⟩,_⟩,_⟩,_⟩,_⟩:=jw;split at h2
  case h_2=>cases h2
  rename_i y hy;have h2:=g03 h2;have h1:x.1<100000:=by simpa[f8f]using h1
  refine⟨y,hy,?_⟩;show L.rnd y=some x.2;have e1:y/100000=f:=by omega
  have e2:y%100000=x.1:=by omega
  unfold Laid.rnd;rw[e1,e2,cj];simp only[hc];exact c34 (b0h hg.1) hx
 rnd y ri h:=by
  have h:L.rnd y=some ri:=h;unfold Laid.rnd at h;split at h
  case h_2=>cases h
  rename_i fn cj;split at h
  case h_2=>cases h
  rename_i c hc;have hg:=ok.good cj hc;simp only[c76,d14,f8c]at hg;have jw:=hg.2 _ (b8x h);exact⟨jw.1.1.1.2,jw.1.1.2,jw.1.2,jw.2⟩
end
end Go.Ax
/- AxZ0: a function whose own memory is frozen behind each of its outermost statements: the run of its body. -/
namespace Go.Ax
def e64(E:Env)(m0 N:Nat)(keep:Nat→List Nat)(call:FuncId→List AV→a03→Option (AV×a03))(lf:Nat){R:Type}:Nat→Code→Frm→a03→(AExit→Frm→a03→Option R)→Option R
 |cur,.seq a b,F,H,k=>e64 E m0 N keep call lf cur a F H λe F' H'=>match e with
  |.normal=>e64 E m0 N keep call lf cur b (d64 m0 H' F') (d45 m0 H') k
  |e=>k e F' H'
 |cur,c,F,H,k=>a4k E m0 N keep call lf cur c F H k
theorem d9h{E:Env}(ok:EnvOk E){call:FuncId→List AV→a03→Option (AV×a03)}(ak:a4w E call){fid:Nat}{e:Entry}{N lf:Nat}{keep:Nat→List Nat}{R:Type}:∀(c:Code),b04 c=true→
 ∀{cur:Nat},RFOk E fid N keep none cur c→∀{k:AExit→Frm→a03→Option R} {r:R} {Q:Exit→Act→World→Prop},(∀x F H I ρ a w,Now E e N F H I ρ a w→k x F H=some r→Q x.conv a w)→
 ∀{F:Frm} {H:a03} {I:Nat→Prop} {ρ:PMap} {a:Act} {w:World},Now E e N F H I ρ a w→e64 E e.m N keep call lf cur c F H k=some r→c.wpIn (wf none) 0 E.P Q a w:=by
 intro c
 induction c with
 |seq x y ihx ihy=>
  intro az cur di k r Q hQ F H I ρ a w aj ae;have az:a3u false (.seq x y)=true:=az;simp only[a3u,d14]at az;refine wpIn_seq (ihx az.1 di.seq1 ?_ aj ae);intro x F H I ρ a w hn hk;cases x with
  |normal=>obtain⟨I',ρ',h'⟩:=hn.frz;exact ihy az.2 di.seq2 hQ h' hk
  |exit id=>exact hQ (.exit id) F H I ρ a w hn hk
  |ret=>exact hQ .ret F H I ρ a w hn hk
 |_=>intro az cur di k r Q hQ F H I ρ a w aj ae;exact c1o (ro:=none) ok ak _ az di hQ aj ae
def f2r(E:Env)(z:Bool)(m0 N:Nat)(keep:Nat→List Nat)(call:FuncId→List AV→a03→Option (AV×a03))(lf:Nat){R:Type}(cur:Nat)(c:Code)(F:Frm)(H:a03)(k:AExit→Frm→a03→Option R):Option R:=bif z then e64 E m0 N keep call lf cur c F H k else a4k E m0 N keep call lf cur c F H k
end Go.Ax
/- AxMemo: calls whose answer is known already. -/
namespace Go.Ax
def e7a:List UInt8→List UInt8→Bool
 | [],[]=>true
 |a::r,b::s=>Nat.beq a.toNat b.toNat&&e7a r s
 |_,_=>false
theorem d4k:∀{a b:List UInt8},e7a a b=true→a=b
 | [],[],_=>rfl
 | [],_::_,h=>by simp[e7a]at h
 |_::_,[],h=>by simp[e7a]at h
 |a::r,b::s,h=>by simp only[e7a,d14,g2e]at h;rw[d4k h.2,UInt8.toNat_inj.1 h.1]
def eqO:Option Nat→Option Nat→Bool
 |none,none=>true
 |some a,some b=>Nat.beq a b
 |_,_=>false
theorem e9j{a b:Option Nat}(h:eqO a b=true):a=b:=by cases a<;>cases b<;>simp_all[eqO]
def eqI:Int→Int→Bool
 |.ofNat a,.ofNat b=>Nat.beq a b
 |.negSucc a,.negSucc b=>Nat.beq a b
 |_,_=>false
theorem e9k{a b:Int}(h:eqI a b=true):a=b:=by cases a<;>cases b<;>simp_all[eqI]
mutual
def eqV:AV→AV→Bool
 |.bool a,.bool b=>match a,b with|true,true=>true|false,false=>true|_,_=>false
 |.int k n,.int k' n'=>decide (k=k')&&eqI n n'
 |.str s,.str t=>e7a s t
 |.nilptr,.nilptr=>true
 |.nilslice,.nilslice=>true
 |.nilmap,.nilmap=>true
 |.nilfunc,.nilfunc=>true
 |.nilifc,.nilifc=>true
 |.iptr cs,.iptr ds=>eqL cs ds
 |.islice r c,.islice r' c'=>eqO c c'&&eqR r r'
 |.agg cs,.agg ds=>eqL cs ds
 |.tuple cs,.tuple ds=>eqL cs ds
 |.iset a,.iset b=>decide (a=b)
 |_,_=>false
def eqL:List AV→List AV→Bool
 | [],[]=>true
 |a::r,b::s=>eqV a b&&eqL r s
 |_,_=>false
def eqR:List (List AV)→List (List AV)→Bool
 | [],[]=>true
 |a::r,b::s=>eqL a b&&eqR r s
 |_,_=>false
end
mutual
theorem e9i:∀(a b:AV),eqV a b=true→a=b
 |.bool a,b,h=>by cases b<;>simp only[eqV]at h<;>first|(cases h;done)|(split at h<;>first|rfl|cases h)
 |.int k n,b,h=>by
  cases b<;>simp only[eqV]at h<;>first|(cases h;done)|skip
  simp only[d14,f4p]at h;rw[h.1,e9k h.2]
 |.str s,b,h=>by cases b<;>simp only[eqV]at h<;>first|(cases h;done)|rw[d4k h]
 |.nilptr,b,h=>by cases b<;>simp only[eqV]at h<;>first|rfl|(cases h;done)
 |.nilslice,b,h=>by cases b<;>simp only[eqV]at h<;>first|rfl|(cases h;done)
 |.nilmap,b,h=>by cases b<;>simp only[eqV]at h<;>first|rfl|(cases h;done)
 |.nilfunc,b,h=>by cases b<;>simp only[eqV]at h<;>first|rfl|(cases h;done)
 |.nilifc,b,h=>by cases b<;>simp only[eqV]at h<;>first|rfl|(cases h;done)
 |.iptr cs,b,h=>by cases b<;>simp only[eqV]at h<;>first|(cases h;done)|rw[b9l _ _ h]
 |.islice r c,b,h=>by
  cases b<;>simp only[eqV]at h<;>first|(cases h;done)|skip
  simp only[d14]at h;rw[e9j h.1,e1h _ _ h.2]
 |.agg cs,b,h=>by cases b<;>simp only[eqV]at h<;>first|(cases h;done)|rw[b9l _ _ h]
 |.tuple cs,b,h=>by cases b<;>simp only[eqV]at h<;>first|(cases h;done)|rw[b9l _ _ h]
 |.junk,b,h=>by simp[eqV]at h
 |.ptr ..,b,h=>by simp[eqV]at h
 |.slice ..,b,h=>by simp[eqV]at h
 |.map ..,b,h=>by simp[eqV]at h
 |.yfn ..,b,h=>by simp[eqV]at h
 |.imap ..,b,h=>by simp[eqV]at h
 |.iset a,b,h=>by cases b<;>simp only[eqV]at h<;>first|(cases h;done)|rw[of_decide_eq_true h]
 |.func ..,b,h=>by simp[eqV]at h
 |.iface ..,b,h=>by simp[eqV]at h
theorem b9l:∀(a b:List AV),eqL a b=true→a=b
 | [],b,h=>by cases b<;>simp[eqL]at h<;>rfl
 |x::r,b,h=>by
  cases b<;>simp only[eqL]at h
  ·cases h
  ·simp only[d14]at h;rw[e9i _ _ h.1,b9l _ _ h.2]
theorem e1h:∀(a b:List (List AV)),eqR a b=true→a=b
 | [],b,h=>by cases b<;>simp[eqR]at h<;>rfl
 |x::r,b,h=>by
  cases b<;>simp only[eqR]at h
  ·cases h
  ·simp only[d14]at h;rw[b9l _ _ h.1,e1h _ _ h.2]
end
structure Fact where
 g:Nat
 args:List AV
 v:AV
def e1y(E:Env)(x:Fact):Prop:=
 ∀(I K:Nat→Prop) (ρ:PMap) (w:World) (ap:List Value),HRel E.G I K ρ (a01 []) w→NRel ρ 0→VRels I w ρ x.args ap→
  XOf E x.g ap w λen w'=>∃c I' ρ',en = .returned c∧Ret E I K ρ 0 w I' ρ' [] w'∧VRel I' w' ρ' x.v c
def e8d:List Fact→FuncId→List AV→Option AV
 | [],_,_=>none
 |x::r,g,args=>bif Nat.beq x.g g&&eqL x.args args then some x.v else e8d r g args
def f5b(M:List Fact)(call:FuncId→List AV→a03→Option (AV×a03))(g:FuncId)(args:List AV)(H:a03):Option (AV×a03):=
 match H with
 | []=>match e8d M g args with
  |some v=>some (v,[])
  |none=>call g args []
 |b::r=>call g args (b::r)
def d2a(E:Env)(f:FuncId)(args:List AV)(H:a03):Option (AV×a03):=match H with
 | []=>E.prim f args
 |_=>none
def b31(E:Env)(call:FuncId→List AV→a03→Option (AV×a03))(lf:Nat)(f:FuncId)(args:List AV)(H:a03):Option (AV×a03):=
 match d2a E f args H with
 |some r=>some r
 |none=>match E.fn f with
 |none=>bif Nat.beq f yId then b0c E call lf args H else none
 |some i=>bif Nat.ble args.length i.ntmps then
  f2r E (E.zf f) H.length i.ntmps (E.keep f) call lf 0 i.code (a5u 0 args) H λe F' H'=>match e with
   |.exit _=>none
   |_=>match a1h E F' H' i.results with
    |some vs=>a1f (E.thaw f) H.length (a5q vs) H'
    |none=>none
  else none
def d2r(E:Env)(M:List Fact):Nat→FuncId→List AV→a03→Option (AV×a03)
 |0,_,_,_=>none
 |n+1,f,args,H=>f5b M (b31 E (d2r E M n) (n+1)) f args H
theorem d6x{E:Env}(ok:EnvOk E)(fX:DrOk E){call:FuncId→List AV→a03→Option (AV×a03)}(ak:a4w E call)(lf:Nat):a4w E (b31 E call lf):=by
 intro g args H v H' ae I K ρ w ap rel hn ha;unfold b31 at ae;split at ae
 ·rename_i r hp;cases ae;unfold d2a at hp;split at hp
  case h_2=>cases hp
  exact fX.prim g args v H' hp args [] v H' (by simpa using hp) I K ρ w ap rel hn ha
 split at ae
 ·rw[cond_eq_ite]at ae;split at ae
  case isFalse=>cases ae
  rename_i hg;have hg:=g03 hg;subst hg;exact c5c ok fX.rnd ak lf args H v H' ae I K ρ w ap rel hn ha
 rename_i i hi;rw[cond_eq_ite]at ae;split at ae
 case isFalse=>cases ae
 rename_i bC;refine e9d ok hi bC (k:=λe F' H'=>match e with
  |.exit _=>none
  |_=>match a1h E F' H' i.results with
   |some vs=>a1f (E.thaw g) H.length (a5q vs) H'
   |none=>none) (λx F1 H1 r h=>by cases x<;>exact h) ?_ rel hn ha
 intro e Q he hQ I ρ a w aj;unfold f2r at ae;cases hz:E.zf g with
 |true=>rw[hz,f6g]at ae;refine d9h (e:=e) (lf:=lf) ok ak i.code (fX.draws g i hi) (fX.code hi) hQ aj ?_;rw[he];exact ae
 |false=>rw[hz,f7z]at ae;refine c1o (e:=e) (ro:=none) (lf:=lf) ok ak i.code (fX.draws g i hi) (fX.code hi) hQ aj ?_;rw[he];exact ae
end Go.Ax
