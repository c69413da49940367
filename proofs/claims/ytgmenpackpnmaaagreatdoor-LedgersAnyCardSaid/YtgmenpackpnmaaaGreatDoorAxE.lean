/- AxHeap: calls on, and loops over, heaps of a few known blocks: what is reached, renamed and put back, ar rewrite rules. -/
import Derived.Test.YtgmenpackpnmaaaGreatDoorAxC
set_option linter.unusedSimpArgs false
set_option linter.unusedVariables false
namespace Go.Ax
@[go_sem] theorem c0e (H:a05) (n:Nat) (acc:List Nat):a2o H n [] acc = acc.reverse:=by cases n<;>rfl
theorem b2p (H:a05) (n:Nat) (b:Nat) (todo acc:List Nat):a2o H (n + 1) (b :: todo) acc = bif a0t acc b then a2o H n todo acc else a2o H n (a64 (a06 H b) ++ todo) (b :: acc):=by rfl
@[go_sem] theorem c0f {n:Nat} (hn:(0 < n) = True) (H:a05) (b:Nat) (todo acc:List Nat):a2o H n (b :: todo) acc = bif a0t acc b then a2o H (n - 1) todo acc else a2o H (n - 1) (a64 (a06 H b) ++ todo) (b :: acc):=by
 obtain ⟨m,rfl⟩:∃ m,n = m + 1:=⟨n - 1,by have:=of_eq_true hn;omega⟩
 exact b2p H m b todo acc
@[go_sem] theorem b69 (x:Nat):a0t [] x = false:=by rfl
@[go_sem] theorem b5d (a:Nat) (r:List Nat) (x:Nat):a0t (a :: r) x = bif decide (a = x) then true else a0t r x:=by
 simp only [a0t,b3t,b2y]
@[go_sem] theorem c0h:a3d [] = true:=by rfl
@[go_sem] theorem b8n (a:Nat) (r:List Nat):a3d (a :: r) = (!(a0t r a) && a3d r):=by rfl
@[go_sem] theorem c1p (k:Nat) (rows:List (List AV)):a64 (some (.row k rows)) = rows.flatMap a11:=by rfl
@[go_sem] theorem b3o (ks vs:List AV) (bs:List Nat) (c:Nat):a64 (some (.map ks vs bs c)) = a11 ks ++ a11 vs:=by rfl
@[go_sem] theorem c5l (b:Nat):List.idxOf? b [] = none:=by rfl
@[go_sem] theorem c3y (a:Nat) (l:List Nat) (b:Nat):List.idxOf? b (a :: l) = bif decide (a = b) then some 0 else (List.idxOf? b l).map (·+ 1):=by
 rw [List.idxOf?_cons,b2y]
 cases decide (a = b)<;>rfl
@[go_sem] theorem c2u (σ:List Nat) (n j:Nat):a0r σ n j = bif decide (j < σ.length) then σ[j]? else some (n + (j - σ.length)):=by
 simp only [a0r,b7g]
@[go_sem] theorem c08 (H:a05) (π:Nat → Option Nat):a2k H [] π = []:=by rfl
@[go_sem] theorem b7x (H:a05) (b:Nat) (σ:List Nat) (π:Nat → Option Nat):a2k H (b :: σ) π = (a06 H b).map (a0h π) :: a2k H σ π:=by rfl
@[go_sem] theorem b75 (σ:List Nat) (n:Nat) (H1:a05) (b:Nat):a10 σ n H1 b [] = []:=by rfl
def b3q (σ:List Nat) (n:Nat) (H1:a05) (o:Option AObj):Option Nat → Option AObj
 | some j=>(a06 H1 j).map (a0h (a0r σ n))
 | none=>o
@[go_sem] theorem b8h (σ:List Nat) (n:Nat) (H1:a05) (o:Option AObj) (j:Nat):b3q σ n H1 o (some j) = (a06 H1 j).map (a0h (a0r σ n)):=by rfl
@[go_sem] theorem b8i (σ:List Nat) (n:Nat) (H1:a05) (o:Option AObj):b3q σ n H1 o none = o:=by rfl
@[go_sem] theorem b76 (σ:List Nat) (n:Nat) (H1:a05) (b:Nat) (o:Option AObj) (r:a05):a10 σ n H1 b (o :: r) = b3q σ n H1 o (σ.idxOf? b) :: a10 σ n H1 (b + 1) r:=by
 simp only [a10]
 cases σ.idxOf? b<;>rfl
@[go_sem] theorem b2m (π:Nat → Option Nat) (k:Nat) (rows:List (List AV)):a0h π (.row k rows) = .row k (rows.map fun r=>r.map (ren π)):=by rfl
@[go_sem] theorem b2n (π:Nat → Option Nat) (ks vs:List AV) (bs:List Nat) (c:Nat):a0h π (.map ks vs bs c) = .map (ks.map (ren π)) (vs.map (ren π)) bs c:=by rfl
/- renaming a value -/
section
variable (π:Nat → Option Nat)
def c3j (f:Nat → AV):Option Nat → AV|some b=>f b|none=>.junk
@[go_sem] theorem c1m (f:Nat → AV) (b:Nat):c3j f (some b) = f b:=by rfl
@[go_sem] theorem c51 (b i o:Nat):ren π (.ptr b i o) = c3j (fun b=>.ptr b i o) (π b):=by simp only [ren];cases π b<;>rfl
@[go_sem] theorem c1k (b i o:Nat) (c:Option Nat):ren π (.slice b i o c) = c3j (fun b=>.slice b i o c) (π b):=by simp only [ren];cases π b<;>rfl
@[go_sem] theorem c52 (b:Nat):ren π (.map b) = c3j (fun b=>.map b) (π b):=by simp only [ren];cases π b<;>rfl
@[go_sem] theorem c53 (k:IntKind) (n:Int):ren π (.int k n) = .int k n:=by rfl
@[go_sem] theorem c3h (b:Bool):ren π (.bool b) = .bool b:=by rfl
@[go_sem] theorem c0b (r:List (List AV)) (c:Option Nat):ren π (.islice r c) = .islice r c:=by rfl
@[go_sem] theorem b74:ren π .nilslice = .nilslice:=by rfl
@[go_sem] theorem c54 (l:List AV):ren π (.agg l) = .agg (l.map (ren π)):=by simp only [ren,a42]
@[go_sem] theorem c1j (l:List AV):ren π (.tuple l) = .tuple (l.map (ren π)):=by simp only [ren,a42]
@[go_sem] theorem c3g (f:Fn) (a b:List AV):ren π (.func f a b) = .func f (a.map (ren π)) (b.map (ren π)):=by simp only [ren,a42]
@[go_sem] theorem c3i:b3m π [] = []:=by rfl
@[go_sem] theorem c1l (s:Nat) (v:AV) (r:Frm):b3m π ((s,v) :: r) = (s,ren π v) :: b3m π r:=by rfl
end
@[go_sem] theorem c5p (m:Nat) (σ:List Nat) (b:Nat):b0y m σ b = bif decide (b < m) then some b else (σ.idxOf? b).map (m + ·):=by
 simp only [b0y,b7g]
theorem a07 {m:Nat} {keep:List Nat} {F:Frm} {H:a05}:gcD m keep F H = bif a3d (a68 m (a3m keep F) H) && (a68 m (a3m keep F) H).all (fun b=>decide (m ≤ b)) && decide (m ≤ H.length) then
 some (b3m (b0y m (a68 m (a3m keep F) H)) (a3m keep F),gcH m (a68 m (a3m keep F) H) H) else none:=by
 have e:(fun b=>Nat.ble m b) = fun b=>decide (m ≤ b):=funext fun b=>b6c m b
 simp only [gcD,e,b6c]
theorem a02 (m:Nat) (F:Frm) (H:a05):a68 m F H = (a2o H 1000000 ((H.take m).flatMap a64 ++ a11 (F.map (·.2))) []).filter fun b=>decide (m ≤ b):=by
 have e:(fun b=>Nat.ble m b) = fun b=>decide (m ≤ b):=funext fun b=>b6c m b
 simp only [a68,a29,e]
@[go_sem] theorem c6r (m:Nat) (σ:List Nat) (H:a05):gcH m σ H = (H.take m).map (Option.map (a0h (b0y m σ))) ++ a2k H σ (b0y m σ):=by rfl
@[go_sem] theorem c5w {α:Type} (p:α → Bool) (a:α) (l:List α):(a :: l).filter p = bif p a then a :: l.filter p else l.filter p:=by
 rw [List.filter_cons];cases p a<;>rfl
attribute [go_sem] List.reverse_cons List.reverse_nil List.filter_nil List.flatMap_cons List.flatMap_nil
theorem a17 (run:List AV → a05 → Option (AV × a05)) (args:List AV) (H:a05) {σ:List Nat} (hσ:a2o H 1000000 (a11 args) [] = σ) (hn:a3d σ = true) (hl:(σ.all fun b=>decide (b < H.length)) = true)
 {args':List AV} (ha:args.map (ren (b0x σ)) = args') {H0:a05} (hH:a2k H σ (b0x σ) = H0) {v:AV} {H1:a05} (hr:run args' H0 = some (v,H1)) :
 a1j run args H = some (ren (a0r σ H.length) v,a10 σ H.length H1 0 H ++ (H1.drop σ.length).map (Option.map (a0h (a0r σ H.length))),σ):=by
 have e:(fun b=>Nat.blt b H.length) = fun b=>decide (b < H.length):=funext fun b=>b7g b H.length
 unfold a1j
 simp only [a29,hσ,hn,e,hl,Bool.and_self,cond_true,ha,hH,hr]
theorem a58 {E:Env} {draw:Bool} {call:CallF} {g:FuncId} {fs cs ar args:List AV} {H:a05} (hx:E.ext g = false) (hf:(E.fn g).isSome = true) (he:fs ++ ar ++ cs = args) {v:AV} {H':a05} {σ:List Nat}
 (h:a1j (call g) args H = some (v,H',σ)) (hl:H'.length = H.length):a1i E draw call (.func (.func g) fs cs) ar H = some (v,H',σ):=by
 simp only [a1i,hx,hf,he,cond_true,cond_false,h,b3t,hl,BEq.rfl,Bool.true_or,Bool.not_true,Bool.and_false]
theorem a3g {E:Env} {call:CallF} {g:FuncId} {fs cs ar args:List AV} {H:a05} (hx:E.ext g = false) (hf:(E.fn g).isSome = true) (he:fs ++ ar ++ cs = args) {v:AV} {H':a05} {σ:List Nat}
 (h:a1j (call g) args H = some (v,H',σ)):a1i E false call (.func (.func g) fs cs) ar H = some (v,H',σ):=by
 simp only [a1i,hx,hf,he,cond_true,cond_false,h,Bool.false_and]
/- freezing -/
@[go_sem] theorem b8m {α β:Type} (a:α) (f:α → β) (d:β):b78 (some a) f d = f a:=by rfl
@[go_sem] theorem c2a {m:Nat} {v:AV} {H:a05}:a2y false m v H = b78 (a2t m true (a7q (a06 H) m 12) v) (fun v'=>some (v',(H.take m).map (Option.map (a0h (a0p m))))) (some (v,H)):=by
 simp only [a2y,cond_false]
 cases a2t m true (a7q (a06 H) m 12) v<;>rfl
section
variable {m:Nat} {top:Bool} {d:AV → Option AV} {h:FHeap} {n:Nat}
@[go_sem] theorem c5r (k:IntKind) (i:Int):a2t m top d (.int k i) = some (.int k i):=by rfl
@[go_sem] theorem c40 (b:Bool):a2t m top d (.bool b) = some (.bool b):=by rfl
@[go_sem] theorem b7c:a2t m top d .nilslice = some .nilslice:=by rfl
@[go_sem] theorem c5q (x:BitVec 64):a2t m top d (u64 x) = some (u64 x):=by rfl
@[go_sem] theorem c5s (l:List AV):a2t m top d (.agg l) = a0d (a4g m top d l) fun l=>some (.agg l):=by simp only [a2t];cases a4g m top d l<;>rfl
@[go_sem] theorem c27 (l:List AV):a2t m top d (.tuple l) = a0d (a4g m top d l) fun l=>some (.tuple l):=by simp only [a2t];cases a4g m top d l<;>rfl
@[go_sem] theorem c41:a4g m top d [] = some []:=by rfl
@[go_sem] theorem c29 (v:AV) (l:List AV):a4g m top d (v :: l) = a0d (a2t m top d v) fun v=>a0d (a4g m top d l) fun l=>some (v :: l):=by
 simp only [a4g];cases a2t m top d v<;>cases a4g m top d l<;>rfl
@[go_sem] theorem c28 (b o l:Nat) (c:Option Nat):a2t m top d (.slice b o l c) = bif decide (b < m) then (bif top then some (.slice b o l c) else none) else d (.slice b o l c):=by simp only [a2t,b93,b7g]
@[go_sem] theorem c0m (hn:(0 < n) = True) (b o l:Nat) (c:Option Nat):a7q h m n (.slice b o l c) = a0d (a7o (h b)) fun kr=>bif decide (o + l ≤ kr.2.length) then a0d (b2u m (a7q h m (n - 1)) ((kr.2.drop o).take l)) fun rs=>some (.islice rs c) else none:=by
 obtain ⟨n,rfl⟩:∃ k,n = k + 1:=⟨n - 1,by have:=of_eq_true hn;omega⟩
 simp only [a7q,Nat.add_sub_cancel]
 cases hb:h b with
 | none=>simp only [hb];rfl
 | some ob=>
  cases ob<;>simp only [hb,a7o,a0d,b6c]
  rename_i kk rows
  cases b2u m (a7q h m n) ((rows.drop o).take l)<;>rfl
theorem b60:b2u m d [] = some []:=by rfl
attribute [go_sem] b60
end
/-! ### append -/
section
variable {E:Env} {h:FHeap} {n:Nat}
@[go_sem] theorem b7i (k:Nat) (rows:List (List AV)) (c:Option Nat):a1e h k (.islice rows c) = bif rows.all (fun r=>decide (r.length = k)) then some rows else none:=by
 simp only [a1e,b2y]
def apT (E:Env) (st xt:TypeId):Option TypeId:=match E.und st,E.und xt with
 | some (.slice e),some dx=>bif a1u dx || !(E.zero e).isSome || !(Nat.blt 0 (E.sz e)) then none else some e
 | _,_=>none
def apS (E:Env) (h:FHeap) (n:Nat) (elem:TypeId) (xs:List (List AV)):AV → Option (AV × Eff)
 | .nilslice=>match xs with
  | []=>some (.nilslice,.none)
  | y :: ys=>bif a2e E elem (y :: ys).length then some (.slice n 0 (y :: ys).length none,.new (.row (E.sz elem) (y :: ys))) else none
 | .islice rows cap=>bif rows.all (fun r=>r.length == E.sz elem) then match xs with
  | []=>some (.islice rows cap,.none)
  | y :: ys=>match cap with
   | some c=>bif Nat.blt c (rows.length + (y :: ys).length) && a2e E elem (rows.length + (y :: ys).length) then
    some (.slice n 0 (rows.length + (y :: ys).length) none,.new (.row (E.sz elem) (rows ++ (y :: ys)))) else none
   | none=>none
  else none
 | .slice b off len cap=>match h b with
  | some (.row kk rows)=>bif kk == E.sz elem && Nat.ble (off + len) rows.length then
   match cap with
   | none=>bif a2e E elem (len + xs.length) && xs.all (fun r=>r.all AV.storable) then
    some (.slice n 0 (len + xs.length) none,.kill b (.row (E.sz elem) (bif Nat.beq (off + len) rows.length then rows.drop off ++ xs else (rows.drop off).take len ++ xs))) else none
   | some c=>bif Nat.ble (len + xs.length) c then
    bif Nat.ble (off + len + xs.length) rows.length && xs.all (fun r=>r.all AV.storable) then
     some (.slice b off (len + xs.length) (some c),.set b (.row (E.sz elem) (rows.take (off + len) ++ xs ++ rows.drop (off + len + xs.length)))) else none
    else bif a2e E elem (len + xs.length) then
     some (.slice n 0 (len + xs.length) none,.new (.row (E.sz elem) ((rows.drop off).take len ++ xs))) else none
   else none
  | _=>none
 | _=>none
@[go_sem] theorem c34 (st xt:TypeId) (s x:AV):a2d E h n st xt s x = a0d (apT E st xt) fun e=>a0d (a1e h (E.sz e) x) fun xs=>apS E h n e xs s:=by
 unfold a2d apT
 cases E.und st with
 | none=>rfl
 | some d=>cases E.und xt with
  | none=>cases d<;>rfl
  | some dx=>
   cases d<;>try rfl
   rename_i e
   simp only
   cases (a1u dx || !(E.zero e).isSome || !(Nat.blt 0 (E.sz e))) with
   | true=>rfl
   | false=>
    simp only [cond_false,a0d]
    cases a1e h (E.sz e) x with
    | none=>rfl
    | some xs=>cases s<;>rfl
@[go_sem] theorem c2z (e:TypeId) (xs:List (List AV)) (b o l c:Nat):apS E h n e xs (.slice b o l (some c)) = a0d (a7o (h b)) fun kr=>
 bif decide (kr.1 = E.sz e) && decide (o + l ≤ kr.2.length) then (bif decide (l + xs.length ≤ c) then
  (bif decide (o + l + xs.length ≤ kr.2.length) && xs.all (fun r=>r.all AV.storable) then some (.slice b o (l + xs.length) (some c),.set b (.row (E.sz e) (kr.2.take (o + l) ++ xs ++ kr.2.drop (o + l + xs.length)))) else none)
  else (bif a2e E e (l + xs.length) then some (.slice n 0 (l + xs.length) none,.new (.row (E.sz e) ((kr.2.drop o).take l ++ xs))) else none)) else none:=by
 simp only [apS]
 cases hb:h b with
 | none=>simp only [hb];rfl
 | some ob=>cases ob<;>simp only [hb,a7o,a0d,b2y,b6c]
theorem b3l {e:TypeId} {k:Nat} (hk:k ≤ 1000000000) (hb:E.bytes e ≤ 1000):a2e E e k = true:=by
 unfold a2e
 rw [decide_eq_true (by omega),Bool.true_and,decide_eq_true_eq]
 calc E.bytes e * (2 * k + 192) ≤ 1000 * (2 * 1000000000 + 192):=Nat.mul_le_mul hb (by omega)
  _ ≤ 281474976710656:=by decide
end
/- The length of a block's rows, by hand. -/
@[go_sem] theorem c6i (a:Nat):(a:Int).tdiv 2 = ((a / 2:Nat):Int):=by rfl
@[go_sem] theorem c6h (a:Nat):(a:Int).tdiv 4 = ((a / 4:Nat):Int):=by rfl
@[go_sem] theorem c6g (a:Nat):(a:Int).tdiv 8 = ((a / 8:Nat):Int):=by rfl
theorem wI1 {n:Nat} (h:n < 9223372036854775807):IntKind.i64.wrap ((n:Int) + 1) = ((n + 1:Nat):Int):=by rw [w64 (by omega) (by omega)];rfl
/-! ### bytes to a string -/
section
variable {E:Env} {h:FHeap} {s d:TypeId}
end
attribute [go_sem] List.length_replicate List.map_replicate List.length_append List.flatMap_append List.map_append
/-! ### calls that only read -/
def FlatO (o:Option AObj):Prop:=∀ π,o.map (a0h π) = o
theorem FlatO.row {k:Nat} {rows:List (List AV)} (h:FlatR rows):FlatO (some (.row k rows)):=fun π=>by
 simp only [Option.map_some,a0h,a00 π h]
end Go.Ax
/- AxMore: facts that all say 'true'; loops over any states; what a heap's values a2o. -/
namespace Go.Ax
theorem b3h {E:Env} {M:List Fact} (hT:∀ y ∈ M,y.v = .bool true) {x:Fact} (hx:x ∈ M):sem E M x.g x.args [] = some (.bool true,[]):=by
 have h:sem E M x.g x.args [] = some (x.v,[]):=a5h.2 (.fact x hx (fun y hy _ _=>by rw [hT y hy,hT x hx]))
 rw [hT x hx] at h
 exact h
/-! ### what is reached -/
end Go.Ax
/- AxZ: a function whose own memory is frozen behind each of its outermost statements. -/
namespace Go.Ax
def c4d (E:Env) (m0 N:Nat) (keep:Nat → List Nat) (call:FuncId → List AV → a05 → Option (AV × a05)) (lf:Nat) {R:Type}:Nat → Code → Frm → a05 → (AExit → Frm → a05 → Option R) → Option R
 | cur,.seq a b,F,H,k=>c4d E m0 N keep call lf cur a F H fun e F' H'=>match e with
  | .normal=>c4d E m0 N keep call lf cur b (b5c m0 H' F') (b47 m0 H') k
  | e=>k e F' H'
 | cur,c,F,H,k=>a32 E m0 N keep call lf cur c F H k
theorem b6a {E:Env} (ok:EnvOk E) {call:FuncId → List AV → a05 → Option (AV × a05)} (hcall:a1k E call) {e:Entry} {N lf:Nat} {keep:Nat → List Nat} {R:Type}:∀ (c:Code),a0w c = true →
 ∀ {cur:Nat} {k:AExit → Frm → a05 → Option R} {r:R} {Q:Exit → Act → World → Prop},(∀ x F H I ρ a w,Now E e N F H I ρ a w → k x F H = some r → Q x.conv a w) →
 ∀ {F:Frm} {H:a05} {I:Nat → Prop} {ρ:PMap} {a:Act} {w:World},Now E e N F H I ρ a w → c4d E e.m N keep call lf cur c F H k = some r → c.wp E.P Q a w:=by
 intro c
 induction c with
 | seq x y ihx ihy=>
  intro hst cur k r Q hQ F H I ρ a w hnow hrun
  simp only [a0w,Bool.and_eq_true] at hst
  refine wp_seq (ihx hst.1 ?_ hnow hrun)
  intro x F H I ρ a w hn hk
  cases x with
  | normal=>
   obtain ⟨I',ρ',h'⟩:=hn.frz
   exact ihy hst.2 hQ h' hk
  | exit id=>exact hQ (.exit id) F H I ρ a w hn hk
  | ret=>exact hQ .ret F H I ρ a w hn hk
 | _=>intro hst cur k r Q hQ F H I ρ a w hnow hrun;exact b4h ok hcall _ hst hQ hnow hrun
def c4y (E:Env) (call:FuncId → List AV → a05 → Option (AV × a05)) (lf:Nat) (f:FuncId) (args:List AV) (H:a05):Option (AV × a05):=
 match E.fn f with
 | none=>none
 | some i=>bif Nat.ble args.length i.ntmps then
  c4d E H.length i.ntmps (E.keep f) call lf 0 i.code (a1w 0 args) H fun e F' H'=>match e with
   | .exit _=>none
   | _=>match a0l E F' H' i.results with
    | some vs=>a2y (E.thaw f) H.length (a2c vs) H'
    | none=>none
  else none
theorem b88 {E:Env} (ok:EnvOk E) (hdr:∀ f i,E.fn f = some i → a0w i.code = true) {call:FuncId → List AV → a05 → Option (AV × a05)} (hcall:a1k E call) (lf:Nat):a1k E (c4y E call lf):=by
 intro g args H v H' hrun I K ρ w cargs rel hn ha
 unfold c4y at hrun
 split at hrun
 ·cases hrun
 rename_i i hi
 rw [cond_eq_ite] at hrun
 split at hrun
 case isFalse=>cases hrun
 rename_i hle
 obtain ⟨fn,h1,h2,h3,h4,_⟩:=ok.fn g i hi
 refine calls_of_wp h1 h2 ?_
 rw [h3]
 let e:Entry:=⟨I,K,ρ,H.length,w,[]⟩
 have hnow:Now E e i.ntmps (a1w 0 args) H I ρ { tmps:=cargs.toArray ++ Array.replicate (i.ntmps - cargs.toArray.size) undef,defers:=[] } w:=
  ⟨fun _ h=>h,fun _ _=>rfl,Ext.refl _ _ _,rel,hn,b0e (by simpa [Nat.ble_eq] using hle) ha,Nat.le_refl _,rfl⟩
 refine b6a (e:=e) ok hcall i.code (hdr g i hi) ?_ hnow hrun
 intro x F' H1 I1 ρ1 a w1 hn1 hk
 have fin:(match a0l E F' H1 i.results with
  | some vs=>a2y (E.thaw g) H.length (a2c vs) H1
  | none=>none) = some (v,H') → a.defers = [] ∧ ∃ c,(results fn a.tmps).run E.P w1 = .ok c w1 ∧ ∃ c' I' ρ',Ending.returned c = .returned c' ∧ Ret E I K ρ H.length w I' ρ' H' w1 ∧ VRel I' w1 ρ' v c':=by
  intro hk
  split at hk
  case h_2=>cases hk
  rename_i vs hvs
  rw [← h4] at hvs
  obtain ⟨c,hr,hv⟩:=a85 ok hn1.rel hn1.frm.2 hvs
  obtain ⟨I2,ρ2,f1,f2,f3,f4,f5,f6⟩:=b0c hk hn1.low hn1.rel hn1.nrel hv
  exact ⟨hn1.defers,c,hr,c,I2,ρ2,rfl,⟨fun c hc=>f1 c (hn1.imm c hc),fun b hb=>by rw [f2 b hb];exact hn1.map b hb,hn1.ext,f3,f4,f5⟩,f6⟩
 cases x with
 | normal=>exact fin hk
 | exit id=>cases hk
 | ret=>exact fin hk
theorem b62 {E:Env} (ok:EnvOk E) (hdr:∀ f i,E.fn f = some i → a0w i.code = true) {M:List Fact} (hM:∀ x ∈ M,a0a E x) (n:Nat) {g:Nat} {args:List AV} {v:AV} (h:c4y E (b3v E M n) n g args [] = some (v,[])) :
 a0a E ⟨g,args,v⟩:=b88 ok hdr (a91 ok hdr hM n) n g args [] v [] h
end Go.Ax
/- AxGrow: grown slices; calls that read one block. -/
namespace Go.Ax
theorem b3p {H:a05} {b:Nat} (hr:a64 (a06 H b) = []):a2o H 1000000 [b] [] = [b]:=by
 have e1:∀ n,a2o H (n + 2) [b] [] = [b]:=by
  intro n
  unfold a2o
  simp only [a0t,cond_false,hr,List.append_nil]
  unfold a2o
  rfl
 exact e1 999998
theorem a21 {k:Nat} {rows:List (List AV)} (h:FlatR rows):a64 (some (.row k rows)) = []:=by
 simp only [a64];exact a01 h
theorem b5z {H:a05} {b:Nat} {o:AObj} (hb:a06 H b = some o):b < H.length:=by
 unfold a06 at hb
 cases hh:H[b]? with
 | none=>rw [hh] at hb;cases hb
 | some x=>exact (List.getElem?_eq_some_iff.1 hh).1
theorem a6s (b n:Nat) (o:Option AObj) (ho:∀ π,o.map (a0h π) = o):∀ (s:Nat) (H:a05),s ≤ b → a10 [b] n [o] s H = H.set (b - s) o
 | s,[],_=>by simp [a10]
 | s,x :: H,hs=>by
  simp only [a10]
  by_cases hsb:s = b
  ·subst hsb
   have e:([s]:List Nat).idxOf? s = some 0:=by simp [List.idxOf?_cons]
   have hrest:∀ (t:Nat) (H:a05),s < t → a10 [s] n [o] t H = H:=by
    intro t H
    induction H generalizing t with
    | nil=>intro _;rfl
    | cons y H ih=>
     intro ht
     have e2:([s]:List Nat).idxOf? t = none:=by simp [List.idxOf?_cons];omega
     simp only [a10,e2,ih (t + 1) (by omega)]
   simp only [e,hrest (s + 1) H (by omega),Nat.sub_self,List.set_cons_zero]
   congr 1
   exact ho _
  ·have e:([b]:List Nat).idxOf? s = none:=by simp [List.idxOf?_cons];omega
   have e2:b - s = (b - (s + 1)) + 1:=by omega
   rw [e2,List.set_cons_succ]
   simp only [e,a6s b n o ho (s + 1) H (by omega)]
theorem a16 {E:Env} {draw:Bool} {call:CallF} {g:FuncId} {fs cs ar args:List AV} {H:a05} {v v':AV} {b:Nat} {o o':AObj} (hx:E.ext g = false) (hf:(E.fn g).isSome = true) (he:fs ++ ar ++ cs = args)
 (hb:a06 H b = some o) (ho:a64 (some o) = []) (hfl:FlatO (some o)) (hargs:a11 args = [b]) {args':List AV} (ha:args.map (ren (b0x [b])) = args') (hr:call g args' [some o] = some (v,[some o'])) (hfl':FlatO (some o')) (hv:ren (a0r [b] H.length) v = v') :
 a1i E draw call (.func (.func g) fs cs) ar H = some (v',H.set b (some o'),[b]):=by
 have hlt:=b5z hb
 have hc:=a17 (call g) args H (σ:=[b]) (by rw [hargs];exact b3p (by rw [hb];exact ho)) rfl (by simpa using hlt) ha (H0:=[some o]) (by simp only [a2k,List.map_cons,List.map_nil,hb];congr 1;exact hfl _) hr
 rw [hv,a6s b _ _ hfl' 0 H (Nat.zero_le _)] at hc
 simp only [Nat.sub_zero,List.drop_succ_cons,List.drop_zero,List.map_nil,List.append_nil,List.length_cons,List.length_nil] at hc
 exact a58 hx hf he hc (by simp)
/-! ### slices of slices -/
def inB (i:Int) (n:Nat):Bool:=decide (0 ≤ i) && decide (i ≤ (n:Int))
@[go_sem] theorem c5k (a n:Nat):inB (a:Int) n = decide (a ≤ n):=by
 unfold inB
 rw [decide_eq_true (by omega),Bool.true_and,Bool.eq_iff_iff,decide_eq_true_eq,decide_eq_true_eq]
 omega
@[go_sem] theorem c7j (n:Nat):inB 0 n = true:=by simp [inB]
theorem a6j {k:IntKind} {i:Int} {n d:Nat}:a0k (some (.int k i)) n d = bif inB i n then some i.toNat else none:=by rfl
attribute [go_sem] Option.map_some Option.map_none
section
variable {E:Env} {h:FHeap} {t:TypeId}
theorem a6h {x:AV} {lo hi mx:Option AV} (hs:slT E t = none) (hx:∀ s,x ≠ .str s):a2b E h t x lo hi mx = none:=by
 unfold a2b
 unfold slT at hs
 cases hu:E.und t with
 | none=>rfl
 | some d=>
  rw [hu] at hs
  cases d<;>first|(cases hs;done)|(cases x<;>first|rfl|exact absurd rfl (hx _))
@[go_sem] theorem b9k {k k':IntKind} {i j:Int}:a2b E h t .nilslice none (some (.int k i)) (some (.int k' j)) = a0d (slT E t) fun e=>bif isT E e && inB j 0 && inB i j.toNat then some .nilslice else none:=by
 cases hs:slT E t with
 | none=>exact a6h hs (fun _ h=>by cases h)
 | some e=>
  simp only [a2b,a1s.1 hs,a0d,a6j,isT]
  cases (E.und e).isSome<;>cases inB j 0<;>first|rfl|(simp only [cond_true,Bool.true_and];cases inB i j.toNat<;>rfl)
@[go_sem] theorem c0v {b o n:Nat} {c:Option Nat} {k k':IntKind} {i j:Int}:a2b E h t (.slice b o n c) none (some (.int k i)) (some (.int k' j)) = a0d (slT E t) fun e=>a0d (a7o (h b)) fun kr=>bif isT E e && decide (kr.1 = E.sz e) && inB j (a0m n c) && inB i j.toNat then some (.slice b o i.toNat (some j.toNat)) else none:=by
 cases hs:slT E t with
 | none=>exact a6h hs (fun _ h=>by cases h)
 | some e=>
  simp only [a2b,a1s.1 hs,a0d,a6j,isT]
  cases hb:h b with
  | none=>cases (E.und e).isSome<;>rfl
  | some ob=>cases ob with
   | map=>cases (E.und e).isSome<;>rfl
   | siter=>cases (E.und e).isSome<;>rfl
   | row kk rows=>
    simp only [a7o,b2y]
    cases (E.und e).isSome<;>cases decide (kk = E.sz e)<;>cases inB j (a0m n c)<;>first|rfl|(simp only [cond_true,Bool.true_and];cases inB i j.toNat<;>rfl)
@[go_sem] theorem c0u {b o n:Nat} {c:Option Nat} {k:IntKind} {j:Int}:a2b E h t (.slice b o n c) none (some (.int k j)) none = a0d (slT E t) fun e=>a0d (a7o (h b)) fun kr=>bif isT E e && decide (kr.1 = E.sz e) && inB j (a0m n c) then some (.slice b o j.toNat c) else none:=by
 cases hs:slT E t with
 | none=>exact a6h hs (fun _ h=>by cases h)
 | some e=>
  have hc:c.map (fun x=>x - 0) = c:=by cases c<;>rfl
  simp only [a2b,a1s.1 hs,a0d,a6j,isT]
  cases hb:h b with
  | none=>cases (E.und e).isSome<;>rfl
  | some ob=>cases ob with
   | map=>cases (E.und e).isSome<;>rfl
   | siter=>cases (E.und e).isSome<;>rfl
   | row kk rows=>
    simp only [a7o,b2y]
    have e0:∀ m,a0k (none:Option AV) m 0 = some 0:=fun _=>rfl
    cases (E.und e).isSome<;>cases decide (kk = E.sz e)<;>cases inB j (a0m n c)<;>first|rfl|(simp only [cond_true,Bool.true_and,e0,hc];rfl)
end
attribute [go_sem] Nat.le_refl Int.toNat_natCast
attribute [go_sem] List.take_length
end Go.Ax
/- AxMelt: calls over flat arguments that return a pointer to a block of their own. -/
namespace Go.Ax
@[go_sem] theorem b95 {v:AV} {H:a05}:a2y true 0 v H = c1y 0 v H:=by rfl
@[go_sem] theorem c1x {m:Nat} {H:a05}:c1y m .nilslice H = some (.nilslice,(H.take m).map (Option.map (a0h (a0p m)))):=by rfl
end Go.Ax
/- AxCpy: copy and clear, ar rewrite rules. -/
namespace Go.Ax
section
variable {E:Env} {draw:Bool} {call:CallF} {F:Frm} {H:a05} {h:FHeap}
@[go_sem] theorem c38 (x:Operand) (t:TypeId):a0g E draw call F H (.call { callee:=.builtin .clear,args:=#[x],argTypes:=#[t] }) = a0d (a5f E (a06 H) t (opv E F x)) fun z=>bif z.2.fits H.length then some (z.1,a5z H z.2,⟨a0c (opv E F x),z.2.keys H.length⟩) else none:=
 a2v rfl rfl (by simp [a3u])
def c7z (E:Env) (t:TypeId):Option Nat:=match E.und t with
 | some (.slice e)=>bif (E.und e).isSome then some (E.sz e) else none
 | _=>none
def c48 (E:Env) (t:TypeId):Option (Nat × List AV):=match E.und t with
 | some (.slice e)=>match E.zero e with|some z=>bif z.all AV.storable then some (E.sz e,z) else none|none=>none
 | _=>none
theorem b0v (t:TypeId) (b o l:Nat) (c:Option Nat) (hl:(l = 0) = False):a5f E h t (.slice b o l c) = a0d (c48 E t) fun kz=>a0d (a7o (h b)) fun kr=>
 bif decide (kr.1 = kz.1) && decide (o + l ≤ kr.2.length) then some (.tuple [],.set b (.row kr.1 (kr.2.take o ++ List.replicate l kz.2 ++ kr.2.drop (o + l)))) else none:=by
 have h0:Nat.beq l 0 = false:=by rw [b3t,b2y];exact decide_eq_false (by rw [hl];exact id)
 unfold a5f c48
 cases E.und t with
 | none=>rfl
 | some d=>
  cases d<;>try rfl
  rename_i e
  simp only [h0,cond_false]
  cases E.zero e with
  | none=>rfl
  | some z=>
   simp only [a0d]
   cases hb:h b with
   | none=>cases z.all AV.storable<;>simp [hb,a7o]
   | some ob=>cases ob<;>cases hz:z.all AV.storable<;>simp [hb,a7o,b2y,b6c]
attribute [go_sem] b0v
end
section
variable {E:Env} {t:TypeId} {c:Bool} {x y:BitVec 64}
end
section
variable {E:Env} {h:FHeap} {t:TypeId}
@[go_sem] theorem c0t {b o n:Nat} {c:Option Nat} {k:IntKind} {i:Int}:a2b E h t (.slice b o n c) (some (.int k i)) none none = a0d (slT E t) fun e=>a0d (a7o (h b)) fun kr=>bif isT E e && decide (kr.1 = E.sz e) && inB i n then some (.slice b (o + i.toNat) (n - i.toNat) (c.map (·- i.toNat))) else none:=by
 cases hs:slT E t with
 | none=>exact a6h hs (fun _ h=>by cases h)
 | some e=>
  simp only [a2b,a1s.1 hs,a0d,a6j,isT]
  cases hb:h b with
  | none=>cases (E.und e).isSome<;>rfl
  | some ob=>cases ob with
   | map=>cases (E.und e).isSome<;>rfl
   | siter=>cases (E.und e).isSome<;>rfl
   | row kk rows=>
    simp only [a7o,b2y]
    have e0:∀ m,a0k (none:Option AV) m n = some n:=fun _=>rfl
    cases (E.und e).isSome<;>cases decide (kk = E.sz e)<;>first|rfl|(simp only [cond_true,Bool.true_and,e0];cases inB i n<;>rfl)
end
end Go.Ax
/- AxFz: a loop that freezes at its end, as rewrite rules. -/
namespace Go.Ax
end Go.Ax
/- AxTwo: slices of slices that grow: one block of rows, a block for each that is not empty. -/
namespace Go.Ax
section
variable {m:Nat} {F:Frm} {H H1:a05} {R:Nat → Prop} {π:Nat → Option Nat} {b k:Nat} {ids:Nat → Nat} {cp:Nat → Option Nat} {fo:List (List (List AV))}
end
section
variable {H:a05} {b k:Nat} {ids:Nat → Nat} {cp:Nat → Option Nat} {fo:List (List (List AV))} {j:Nat} {x:List AV} {o:Option AObj}
end
def fqE (E:Env) (g:FuncId) (m:Nat) (results:List ResultVar) (P:AV × a05 → Prop):a6a:=
 fun e F H=>match e with|.exit _=>False|_=>∃ vs r,a0l E F H results = some vs ∧ a2y (E.thaw g) m (a2c vs) H = some r ∧ P r
theorem b85 {E:Env} {M:List Fact} {g:FuncId} {args:List AV} {H:a05} {code:Code} {N:Nat} {results:List ResultVar} {P:AV × a05 → Prop}
 (hfn:E.fn g = some ⟨code,N,results⟩) (hno:∀ y ∈ M,y.g ≠ g) (hN:Nat.ble args.length N = true) {m:Nat} (hm:H.length = m) (h:Wp (cx E M m N g 0) code (a1w 0 args) H (fqE E g m results P)):∃ r,P r ∧ sem E M g args H = some r:=by
 subst hm
 obtain ⟨e,F',H',h1,h2⟩:=b3b _ h
 cases e with
 | normal=>obtain ⟨vs,⟨v,H2⟩,h3,h4,h5⟩:=h2;exact ⟨_,h5,b1o hfn hno hN h1 (fun _ h=>by cases h) h3 h4⟩
 | ret=>obtain ⟨vs,⟨v,H2⟩,h3,h4,h5⟩:=h2;exact ⟨_,h5,b1o hfn hno hN h1 (fun _ h=>by cases h) h3 h4⟩
 | exit id=>exact h2.elim
theorem b61 {E:Env} {g:FuncId} {m:Nat} {results:List ResultVar} {P:AV × a05 → Prop} {e:AExit} {F:Frm} {H:a05} {r:AV × a05} (h:(bif e.fin then a0d (a0l E F H results) fun vs=>a2y (E.thaw g) m (a2c vs) H else none) = some r) (h3:P r):fqE E g m results P e F H:=by
 have h:=fqb h
 cases e with
 | exit i=>exact h
 | _=>obtain ⟨vs,h1,h2⟩:=h;exact ⟨vs,r,h1,h2,h3⟩
theorem svE {E:Env} {M:List Fact} {g:FuncId} {args:List AV} {H:a05} {P:AV × a05 → Prop} (f:Func) (h:Wp (cx E M H.length f.ntmps g 0) (f.body.getD .skip) (a1w 0 args) H (fqE E g H.length f.results.toList P)) (hfn:E.fn g = some ⟨f.body.getD .skip,f.ntmps,f.results.toList⟩:=by kernel_rfl)
 (hno:(M.all fun y=>!Nat.beq y.g g) = true:=by rfl) (hN:Nat.ble args.length f.ntmps = true:=by rfl):∃ r,P r ∧ sem E M g args H = some r:=b85 hfn (fun y hy e=>by
 have:=List.all_eq_true.1 hno y hy
 rw [e] at this
 simp at this) hN rfl h
end Go.Ax
/- AxCall3: calls over two blocks, which they may write. -/
namespace Go.Ax
end Go.Ax
/- AxTab: a table of rows of words in blocks, wherever they lie; heads of loops and calls over it. -/
namespace Go.Ax
section
variable {H H1:a05} {R:Nat → Prop} {π:Nat → Option Nat} {a b q:Nat} {ids:Nat → Nat} {w:Nat} {fo:List (List (BitVec 64))} {fr:Int}
end
/-! ### calls, wherever the blocks lie -/
end Go.Ax
/- AxTab2: a table that a call has been given: heads of loops and calls that write it. -/
namespace Go.Ax
section
variable {H H1:a05} {a b q:Nat} {ids:Nat → Nat} {w:Nat} {fo:List (List (BitVec 64))} {fr:Int}
end
end Go.Ax
/- AxLog: the look at a drawn region's log, the order first. -/
namespace Go.Ax
end Go.Ax
namespace Go.Ax
theorem b7p {F:Frm} {H:a05} {Q:a6a} {E:Env} {M:List Fact} {m N:Nat} {g:FuncId} {cur:Nat} {id ops} (R:Frm → a05 → Prop) (h:∃ F1 H1 log,a4t E false N (sem E M) ops.toList ops.toList [] F H = some (F1,H1,log) ∧ R F1 H1) (hq:∀ F1 H1,R F1 H1 → Q .normal F1 H1):Wp (cx E M m N g cur) (.region id ops false) F H Q:=by
 obtain ⟨F1,H1,log,h1,h3⟩:=h
 exact xs h1 rfl (hq _ _ h3)
theorem a88 {draw:Bool} {E:Env} {M:List Fact} {N:Nat} {ops:List Oper} {F F1:Frm} {H H1:a05} {log:List LogE} {R:Frm → a05 → Prop} (h1:a4t E draw N (sem E M) ops ops [] F H = some (F1,H1,log)) (h3:R F1 H1):∃ F1 H1 log,a4t E draw N (sem E M) ops ops [] F H = some (F1,H1,log) ∧ R F1 H1:=⟨_,_,_,h1,h3⟩
end Go.Ax
/- AxTab3: calls that are given a table (and a list in a block). -/
namespace Go.Ax
end Go.Ax
/- AxTab4: a table that is being b1w; heads of the loops that make and fill it. -/
namespace Go.Ax
section
variable {H H1:a05} {R:Nat → Prop} {π:Nat → Option Nat} {a b:Nat} {ids:Nat → Nat} {w n i:Nat}
end
end Go.Ax
/- AxTab5: a table's number in another cell; a table that is given back. -/
namespace Go.Ax
section
variable {H:a05} {a b q:Nat} {ids:Nat → Nat} {w:Nat} {fo:List (List (BitVec 64))} {fr:Int}
end
end Go.Ax
/- AxMapS: maps by keys that have an encoding; maps of growing slices of numbers. -/
namespace Go.Ax
def a9n {α:Type} [DecidableEq α] (x:α):List α → Option Nat
 | []=>none
 | y :: l=>if x = y then some 0 else (a9n x l).map (·+ 1)
theorem a4y {α:Type} [DecidableEq α] {x:α}:∀ {l:List α} {j:Nat},a9n x l = some j → l[j]? = some x
 | [],_,h=>by cases h
 | y :: l,j,h=>by
  unfold a9n at h
  split at h
  ·rename_i e;cases h;rw [e];rfl
  ·cases hp:a9n x l with
   | none=>rw [hp] at h;cases h
   | some k=>rw [hp] at h;cases h;rw [List.getElem?_cons_succ];exact a4y hp
theorem a6u {α:Type} [DecidableEq α] {x:α}:∀ {l:List α},a9n x l = none → x ∉ l
 | [],_=>by simp
 | y :: l,h=>by
  unfold a9n at h
  split at h
  ·cases h
  ·rename_i e
   cases hp:a9n x l with
   | none=>simp only [List.mem_cons,not_or];exact ⟨e,a6u hp⟩
   | some k=>rw [hp] at h;cases h
structure KeyOk {α:Type} [DecidableEq α] (E:Env) (t kt et:TypeId) (enc:α → AV):Prop where
 und:E.und t = some (.map kt et)
 ty:b19 E kt = true
 val:∀ x,b07 E kt (enc x) = true
 eq:∀ x y,aeq E 6 kt (enc x) (enc y) = some (decide (x = y))
 same:∀ x,b4o (enc x) (enc x) = true
section
variable {α:Type} [DecidableEq α] {E:Env} {t kt et:TypeId} {enc:α → AV}
theorem KeyOk.find (ho:KeyOk E t kt et enc) (x:α):∀ (l:List α) (i:Nat),a1a (aeq E 6 kt) (enc x) (l.map enc) i = some ((a9n x l).map (i + ·))
 | [],i=>rfl
 | y :: l,i=>by
  simp only [List.map_cons,a1a,ho.eq,a9n]
  by_cases h:x = y
  ·simp [h]
  ·rw [decide_eq_false h,cond_false,ho.find x l (i + 1),if_neg h]
   cases a9n x l with
   | none=>rfl
   | some k=>simp only [Option.map_some,Option.some.injEq];omega
theorem KeyOk.lookup (ho:KeyOk E t kt et enc) {h:FHeap} {m v z:AV} {zl:List AV} {d:TypeDesc} {l:List α} {vs:List AV} (hz:E.zero et = some zl) (hd:E.und et = some d) (hz1:a6k d zl = some z) (hm:a62 h m = some (l.map enc,vs)) (x:α)
 (hv:(match a9n x l with|some i=>vs[i]?|none=>some z) = some v):a31 E h t m (enc x) false = some v:=by
 unfold a31
 rw [ho.und]
 simp only [ho.ty,ho.val,Bool.and_self,cond_true,hm,hz,hd,ho.find]
 cases hp:a9n x l with
 | none=>
  rw [hp] at hv
  cases hv
  simp only [Option.map_none]
  unfold a6k at hz1
  cases ha:a0x d with
  | true=>rw [ha] at hz1;simpa using hz1
  | false=>
   rw [ha] at hz1
   simp only [cond_false] at hz1 ⊢
   split at hz1
   ·cases hz1;rfl
   ·cases hz1
 | some i=>
  rw [hp] at hv
  simp only [Option.map_some,Nat.zero_add]
  simp only at hv
  rw [hv];rfl
theorem KeyOk.pairs (ho:KeyOk E t kt et enc) {h:FHeap} {b:Nat} {l:List α} {vs:List AV} {bs:List Nat} {cl:Nat} (hb:h b = some (.map (l.map enc) vs bs cl)) (x:α):a5b E h t (.map b) (enc x) = some (b,l.map enc,vs,bs,cl,a9n x l):=by
 unfold a5b
 rw [ho.und]
 simp only [ho.ty,ho.val,Bool.and_self,cond_true,hb,ho.find]
 cases hp:a9n x l with
 | none=>rfl
 | some i=>
  simp only [Option.map_some,Nat.zero_add]
  have:(l.map enc)[i]? = some (enc x):=by rw [List.getElem?_map,a4y hp];rfl
  rw [this]
  simp only [ho.same,cond_true]
theorem KeyOk.update (ho:KeyOk E t kt et enc) {h:FHeap} {b:Nat} {l:List α} {vs:List AV} {bs:List Nat} {cl:Nat} (hb:h b = some (.map (l.map enc) vs bs cl)) (x:α) (v:AV) :
 a0y E h t (.map b) (enc x) v = some (.set b (match a9n x l with|some i=>.map (l.map enc) (vs.set i v) bs cl|none=>.map (l.map enc ++ [enc x]) (vs ++ [v]) (bs ++ [cl]) (cl + 1))):=by
 unfold a0y
 rw [ho.pairs hb x]
 cases a9n x l<;>rfl
end
/-! ### the values that a key has collected -/
end Go.Ax
