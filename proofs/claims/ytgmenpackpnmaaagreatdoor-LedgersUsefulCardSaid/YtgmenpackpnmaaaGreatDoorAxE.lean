/- AxHeap: calls on, and loops over, heaps of a few known blocks: what is reached, renamed and put back, ar rewrite rules. -/
import Derived.Test.YtgmenpackpnmaaaGreatDoorAxC
set_option linter.unusedSimpArgs false
set_option linter.unusedVariables false
namespace Go.Ax
@[go_sem] theorem d9b (H:a06) (n:Nat) (acc:List Nat):a2j H n [] acc = acc.reverse:=by cases n<;>rfl
theorem c37 (H:a06) (n:Nat) (b:Nat) (todo acc:List Nat):a2j H (n + 1) (b :: todo) acc = bif a1f acc b then a2j H n todo acc else a2j H n (a0v (a04 H b) ++ todo) (b :: acc):=by rfl
@[go_sem] theorem d9c {n:Nat} (hn:(0 < n) = True) (H:a06) (b:Nat) (todo acc:List Nat):a2j H n (b :: todo) acc = bif a1f acc b then a2j H (n - 1) todo acc else a2j H (n - 1) (a0v (a04 H b) ++ todo) (b :: acc):=by
 obtain ⟨m,rfl⟩:∃ m,n = m + 1:=⟨n - 1,by have:=of_eq_true hn;omega⟩
 exact c37 H m b todo acc
@[go_sem] theorem d2k (x:Nat):a1f [] x = false:=by rfl
@[go_sem] theorem c9j (a:Nat) (r:List Nat) (x:Nat):a1f (a :: r) x = bif decide (a = x) then true else a1f r x:=by
 simp only [a1f,c1m,b5e]
@[go_sem] theorem d9e:a51 [] = true:=by rfl
@[go_sem] theorem c00 (a:Nat) (r:List Nat):a51 (a :: r) = (!(a1f r a) && a51 r):=by rfl
@[go_sem] theorem e0w (k:Nat) (rows:List (List AV)):a0v (some (.row k rows)) = rows.flatMap a0d:=by rfl
@[go_sem] theorem e6m (b:Nat):List.idxOf? b [] = none:=by rfl
@[go_sem] theorem e48 (a:Nat) (l:List Nat) (b:Nat):List.idxOf? b (a :: l) = bif decide (a = b) then some 0 else (List.idxOf? b l).map (·+ 1):=by
 rw [List.idxOf?_cons,b5e]
 cases decide (a = b)<;>rfl
@[go_sem] theorem e63 (σ:List Nat) (b:Nat):a50 σ b = σ.idxOf? b:=by rfl
@[go_sem] theorem e2v (σ:List Nat) (n j:Nat):a18 σ n j = bif decide (j < σ.length) then σ[j]? else some (n + (j - σ.length)):=by
 simp only [a18,c4g]
@[go_sem] theorem d97 (H:a06) (π:Nat → Option Nat):a1n H [] π = []:=by rfl
@[go_sem] theorem d5d (H:a06) (b:Nat) (σ:List Nat) (π:Nat → Option Nat):a1n H (b :: σ) π = (a04 H b).map (a0m π) :: a1n H σ π:=by rfl
@[go_sem] theorem d40 (σ:List Nat) (n:Nat) (H1:a06) (b:Nat):a11 σ n H1 b [] = []:=by rfl
def c68 (σ:List Nat) (n:Nat) (H1:a06) (o:Option AObj):Option Nat → Option AObj
 | some j=>(a04 H1 j).map (a0m (a18 σ n))
 | none=>o
@[go_sem] theorem d62 (σ:List Nat) (n:Nat) (H1:a06) (o:Option AObj) (j:Nat):c68 σ n H1 o (some j) = (a04 H1 j).map (a0m (a18 σ n)):=by rfl
@[go_sem] theorem d63 (σ:List Nat) (n:Nat) (H1:a06) (o:Option AObj):c68 σ n H1 o none = o:=by rfl
@[go_sem] theorem d41 (σ:List Nat) (n:Nat) (H1:a06) (b:Nat) (o:Option AObj) (r:a06):a11 σ n H1 b (o :: r) = c68 σ n H1 o (σ.idxOf? b) :: a11 σ n H1 (b + 1) r:=by
 simp only [a11]
 cases σ.idxOf? b<;>rfl
@[go_sem] theorem b4h (π:Nat → Option Nat) (k:Nat) (rows:List (List AV)):a0m π (.row k rows) = .row k (rows.map fun r=>r.map (ren π)):=by rfl
/- renaming a value -/
section
variable (π:Nat → Option Nat)
def e3r (f:Nat → AV):Option Nat → AV|some b=>f b|none=>.junk
@[go_sem] theorem c5y (f:Nat → AV) (b:Nat):e3r f (some b) = f b:=by rfl
@[go_sem] theorem d5z (b i o:Nat):ren π (.ptr b i o) = e3r (fun b=>.ptr b i o) (π b):=by simp only [ren];cases π b<;>rfl
@[go_sem] theorem c5t (b i o:Nat) (c:Option Nat):ren π (.slice b i o c) = e3r (fun b=>.slice b i o c) (π b):=by simp only [ren];cases π b<;>rfl
@[go_sem] theorem e5s (b:Nat):ren π (.map b) = e3r (fun b=>.map b) (π b):=by simp only [ren];cases π b<;>rfl
@[go_sem] theorem e5t (k:IntKind) (n:Int):ren π (.int k n) = .int k n:=by rfl
@[go_sem] theorem e3p (b:Bool):ren π (.bool b) = .bool b:=by rfl
@[go_sem] theorem e5r (s:List UInt8):ren π (.str s) = .str s:=by rfl
@[go_sem] theorem d9a (r:List (List AV)) (c:Option Nat):ren π (.islice r c) = .islice r c:=by rfl
@[go_sem] theorem e3o (r:List AV):ren π (.iptr r) = .iptr r:=by rfl
@[go_sem] theorem d3z:ren π .nilslice = .nilslice:=by rfl
@[go_sem] theorem e3n:ren π .junk = .junk:=by rfl
@[go_sem] theorem e5u (l:List AV):ren π (.agg l) = .agg (l.map (ren π)):=by simp only [ren,a72]
@[go_sem] theorem e0s (l:List AV):ren π (.tuple l) = .tuple (l.map (ren π)):=by simp only [ren,a72]
@[go_sem] theorem c1e (f:Fn) (a b:List AV):ren π (.func f a b) = .func f (a.map (ren π)) (b.map (ren π)):=by simp only [ren,a72]
@[go_sem] theorem e3q:b9d π [] = []:=by rfl
@[go_sem] theorem c5x (s:Nat) (v:AV) (r:Frm):b9d π ((s,v) :: r) = (s,ren π v) :: b9d π r:=by rfl
end
@[go_sem] theorem c7i (m:Nat) (σ:List Nat) (b:Nat):b6d m σ b = bif decide (b < m) then some b else (σ.idxOf? b).map (m + ·):=by
 simp only [b6d,c4g]
theorem a02 {m:Nat} {keep:List Nat} {F:Frm} {H:a06}:gcD m keep F H = bif a51 (b0r m (a1j keep F) H) && (b0r m (a1j keep F) H).all (fun b=>decide (m ≤ b)) && decide (m ≤ H.length) then
 some (b9d (b6d m (b0r m (a1j keep F) H)) (a1j keep F),gcH m (b0r m (a1j keep F) H) H) else none:=by
 have e:(fun b=>Nat.ble m b) = fun b=>decide (m ≤ b):=funext fun b=>c4s m b
 simp only [gcD,e,c4s]
theorem a00 (m:Nat) (F:Frm) (H:a06):b0r m F H = (a2j H 1000000 ((H.take m).flatMap a0v ++ a0d (F.map (·.2))) []).filter fun b=>decide (m ≤ b):=by
 have e:(fun b=>Nat.ble m b) = fun b=>decide (m ≤ b):=funext fun b=>c4s m b
 simp only [b0r,a4o,e]
@[go_sem] theorem d47 (m:Nat) (σ:List Nat) (H:a06):gcH m σ H = (H.take m).map (Option.map (a0m (b6d m σ))) ++ a1n H σ (b6d m σ):=by rfl
@[go_sem] theorem e7a {α:Type} (p:α → Bool) (a:α) (l:List α):(a :: l).filter p = bif p a then a :: l.filter p else l.filter p:=by
 rw [List.filter_cons];cases p a<;>rfl
attribute [go_sem] List.reverse_cons List.reverse_nil List.filter_nil List.flatMap_cons List.flatMap_nil
theorem a0y (run:List AV → a06 → Option (AV × a06)) (args:List AV) (H:a06) {σ:List Nat} (hσ:a2j H 1000000 (a0d args) [] = σ) (hn:a51 σ = true) (hl:(σ.all fun b=>decide (b < H.length)) = true)
 {args':List AV} (ha:args.map (ren (a50 σ)) = args') {H0:a06} (hH:a1n H σ (a50 σ) = H0) {v:AV} {H1:a06} (hr:run args' H0 = some (v,H1)) :
 a2t run args H = some (ren (a18 σ H.length) v,a11 σ H.length H1 0 H ++ (H1.drop σ.length).map (Option.map (a0m (a18 σ H.length))),σ):=by
 have e:(fun b=>Nat.blt b H.length) = fun b=>decide (b < H.length):=funext fun b=>c4g b H.length
 unfold a2t
 simp only [a4o,hσ,hn,e,hl,Bool.and_self,cond_true,ha,hH,hr]
theorem a23 {E:Env} {draw:Bool} {call:CallF} {g:FuncId} {fs cs ar args:List AV} {H:a06} (hx:E.ext g = false) (hf:(E.fn g).isSome = true) (he:fs ++ ar ++ cs = args) {v:AV} {H':a06} {σ:List Nat}
 (h:a2t (call g) args H = some (v,H',σ)) (hl:H'.length = H.length):a0e E draw call (.func (.func g) fs cs) ar H = some (v,H',σ):=by
 simp only [a0e,hx,hf,he,cond_true,cond_false,h,c1m,hl,BEq.rfl,Bool.true_or,Bool.not_true,Bool.and_false]
theorem a5s {E:Env} {call:CallF} {g:FuncId} {fs cs ar args:List AV} {H:a06} (hx:E.ext g = false) (hf:(E.fn g).isSome = true) (he:fs ++ ar ++ cs = args) {v:AV} {H':a06} {σ:List Nat}
 (h:a2t (call g) args H = some (v,H',σ)):a0e E false call (.func (.func g) fs cs) ar H = some (v,H',σ):=by
 simp only [a0e,hx,hf,he,cond_true,cond_false,h,Bool.false_and]
/- freezing -/
@[go_sem] theorem d6g {α β:Type} (a:α) (f:α → β) (d:β):c6e (some a) f d = f a:=by rfl
@[go_sem] theorem a87 {m:Nat} {v:AV} {H:a06}:a2a false m v H = c6e (a42 m true (a86 (a04 H) m 12) v) (fun v'=>some (v',(H.take m).map (Option.map (a0m (a19 m))))) (some (v,H)):=by
 simp only [a2a,cond_false]
 cases a42 m true (a86 (a04 H) m 12) v<;>rfl
section
variable {m:Nat} {top:Bool} {d:AV → Option AV} {h:FHeap} {n:Nat}
@[go_sem] theorem d79 (k:IntKind) (i:Int):a42 m top d (.int k i) = some (.int k i):=by rfl
@[go_sem] theorem e4d (b:Bool):a42 m top d (.bool b) = some (.bool b):=by rfl
@[go_sem] theorem e6v (s:List UInt8):a42 m top d (.str s) = some (.str s):=by rfl
@[go_sem] theorem d9l (r:List (List AV)) (c:Option Nat):a42 m top d (.islice r c) = some (.islice r c):=by rfl
@[go_sem] theorem d4a:a42 m top d .nilslice = some .nilslice:=by rfl
@[go_sem] theorem e97 (c:Option (Option Nat)) (rows:List (List AV)):a42 m top d (sl c rows) = some (sl c rows):=a9v m top d _ (a2r c rows)
@[go_sem] theorem e6t (x:BitVec 64):a42 m top d (u64 x) = some (u64 x):=by rfl
@[go_sem] theorem e6y (l:List AV):a42 m top d (.agg l) = a0j (a64 m top d l) fun l=>some (.agg l):=by simp only [a42];cases a64 m top d l<;>rfl
@[go_sem] theorem b8d (l:List AV):a42 m top d (.tuple l) = a0j (a64 m top d l) fun l=>some (.tuple l):=by simp only [a42];cases a64 m top d l<;>rfl
@[go_sem] theorem e4c (f:Fn) (a b:List AV):a42 m top d (.func f a b) = a0j (a64 m top d a) fun a=>a0j (a64 m top d b) fun b=>some (.func f a b):=by
 simp only [a42];cases a64 m top d a<;>cases a64 m top d b<;>rfl
@[go_sem] theorem b6j:a64 m top d [] = some []:=by rfl
@[go_sem] theorem a85 (v:AV) (l:List AV):a64 m top d (v :: l) = a0j (a42 m top d v) fun v=>a0j (a64 m top d l) fun l=>some (v :: l):=by
 simp only [a64];cases a42 m top d v<;>cases a64 m top d l<;>rfl
@[go_sem] theorem a6s (b o l:Nat) (c:Option Nat):a42 m top d (.slice b o l c) = bif decide (b < m) then (bif top then some (.slice b o l c) else none) else d (.slice b o l c):=by simp only [a42,d4c,c4g]
@[go_sem] theorem e6w (b o l:Nat):a42 m top d (.ptr b o l) = bif decide (b < m) then (bif top then some (.ptr b o l) else none) else d (.ptr b o l):=by simp only [a42,d4c,c4g]
@[go_sem] theorem a5c (hn:(0 < n) = True) (b o l:Nat) (c:Option Nat):a86 h m n (.slice b o l c) = a0j (a7t (h b)) fun kr=>bif decide (o + l ≤ kr.2.length) then a0j (a7m m (a86 h m (n - 1)) ((kr.2.drop o).take l)) fun rs=>some (.islice rs c) else none:=by
 obtain ⟨n,rfl⟩:∃ k,n = k + 1:=⟨n - 1,by have:=of_eq_true hn;omega⟩
 simp only [a86,Nat.add_sub_cancel]
 cases hb:h b with
 | none=>simp only [hb];rfl
 | some ob=>
  cases ob<;>simp only [hb,a7t,a0j,c4s]
  rename_i kk rows
  cases a7m m (a86 h m n) ((rows.drop o).take l)<;>rfl
@[go_sem] theorem e4f (hn:(0 < n) = True) (b i o:Nat):a86 h m n (.ptr b i o) = a0j (a7t (h b)) fun kr=>a0j (kr.2[i]?) fun r=>a0j (a64 m false (a86 h m (n - 1)) (r.drop o)) fun cs=>some (.iptr cs):=by
 obtain ⟨n,rfl⟩:∃ k,n = k + 1:=⟨n - 1,by have:=of_eq_true hn;omega⟩
 simp only [a86,Nat.add_sub_cancel]
 cases hb:h b with
 | none=>simp only [hb];rfl
 | some ob=>
  cases ob<;>simp only [hb,a7t,a0j]
  rename_i kk rows
  cases rows[i]? with
  | none=>rfl
  | some r=>simp only;cases a64 m false (a86 h m n) (r.drop o)<;>rfl
theorem c20:a7m m d [] = some []:=by rfl
theorem a9w (r:List AV) (rs:List (List AV)):a7m m d (r :: rs) = a0j (a64 m false d r) fun r=>a0j (a7m m d rs) fun rs=>some (r :: rs):=by
 simp only [a7m];cases a64 m false d r<;>cases a7m m d rs<;>rfl
theorem a1a (a b:List (List AV)):a7m m d (a ++ b) = a0j (a7m m d a) fun a=>a0j (a7m m d b) fun b=>some (a ++ b):=by
 induction a with
 | nil=>simp only [List.nil_append,c20,a0j];cases a7m m d b<;>rfl
 | cons x a ih=>
  simp only [List.cons_append,a9w,ih]
  cases a64 m false d x with
  | none=>rfl
  | some x=>simp only [a0j];cases a7m m d a<;>cases a7m m d b<;>rfl
attribute [go_sem] c20 a9w
end
/-! ### append -/
section
variable {E:Env} {h:FHeap} {n:Nat}
@[go_sem] theorem d8e (k b o l:Nat) (c:Option Nat):a1q h k (.slice b o l c) = a0j (a7t (h b)) fun kr=>bif decide (kr.1 = k) && decide (o + l ≤ kr.2.length) then some ((kr.2.drop o).take l) else none:=by
 simp only [a1q]
 cases hb:h b with
 | none=>simp only [hb];rfl
 | some ob=>cases ob<;>simp only [hb,a7t,a0j,b5e,c4s]
@[go_sem] theorem d4j (k:Nat) (rows:List (List AV)) (c:Option Nat):a1q h k (.islice rows c) = bif rows.all (fun r=>decide (r.length = k)) then some rows else none:=by
 simp only [a1q,b5e]
def apT (E:Env) (st xt:TypeId):Option TypeId:=match E.und st,E.und xt with
 | some (.slice e),some dx=>bif a40 dx || !(E.zero e).isSome || !(Nat.blt 0 (E.sz e)) then none else some e
 | _,_=>none
def apS (E:Env) (h:FHeap) (n:Nat) (elem:TypeId) (xs:List (List AV)):AV → Option (AV × Eff)
 | .nilslice=>match xs with
  | []=>some (.nilslice,.none)
  | y :: ys=>bif a2k E elem (y :: ys).length then some (.slice n 0 (y :: ys).length none,.new (.row (E.sz elem) (y :: ys))) else none
 | .islice rows cap=>bif rows.all (fun r=>r.length == E.sz elem) then match xs with
  | []=>some (.islice rows cap,.none)
  | y :: ys=>match cap with
   | some c=>bif Nat.blt c (rows.length + (y :: ys).length) && a2k E elem (rows.length + (y :: ys).length) then
    some (.slice n 0 (rows.length + (y :: ys).length) none,.new (.row (E.sz elem) (rows ++ (y :: ys)))) else none
   | none=>none
  else none
 | .slice b off len cap=>match h b with
  | some (.row kk rows)=>bif kk == E.sz elem && Nat.ble (off + len) rows.length then
   match cap with
   | none=>bif a2k E elem (len + xs.length) && xs.all (fun r=>r.all AV.storable) then
    some (.slice n 0 (len + xs.length) none,.kill b (.row (E.sz elem) (bif Nat.beq (off + len) rows.length then rows.drop off ++ xs else (rows.drop off).take len ++ xs))) else none
   | some c=>bif Nat.ble (len + xs.length) c then
    bif Nat.ble (off + len + xs.length) rows.length && xs.all (fun r=>r.all AV.storable) then
     some (.slice b off (len + xs.length) (some c),.set b (.row (E.sz elem) (rows.take (off + len) ++ xs ++ rows.drop (off + len + xs.length)))) else none
    else bif a2k E elem (len + xs.length) then
     some (.slice n 0 (len + xs.length) none,.new (.row (E.sz elem) ((rows.drop off).take len ++ xs))) else none
   else none
  | _=>none
 | _=>none
@[go_sem] theorem e35 (st xt:TypeId) (s x:AV):a4z E h n st xt s x = a0j (apT E st xt) fun e=>a0j (a1q h (E.sz e) x) fun xs=>apS E h n e xs s:=by
 unfold a4z apT
 cases E.und st with
 | none=>rfl
 | some d=>cases E.und xt with
  | none=>cases d<;>rfl
  | some dx=>
   cases d<;>try rfl
   rename_i e
   simp only
   cases (a40 dx || !(E.zero e).isSome || !(Nat.blt 0 (E.sz e))) with
   | true=>rfl
   | false=>
    simp only [cond_false,a0j]
    cases a1q h (E.sz e) x with
    | none=>rfl
    | some xs=>cases s<;>rfl
@[go_sem] theorem e7u (e:TypeId) (y:List AV) (ys:List (List AV)):apS E h n e (y :: ys) .nilslice = bif a2k E e (y :: ys).length then some (.slice n 0 (y :: ys).length none,.new (.row (E.sz e) (y :: ys))) else none:=by rfl
@[go_sem] theorem e4q (e:TypeId) (xs:List (List AV)) (b o l:Nat):apS E h n e xs (.slice b o l none) = a0j (a7t (h b)) fun kr=>
 bif decide (kr.1 = E.sz e) then (bif decide (o + l = kr.2.length) then (bif a2k E e (l + xs.length) && xs.all (fun r=>r.all AV.storable) then some (.slice n 0 (l + xs.length) none,.kill b (.row (E.sz e) (kr.2.drop o ++ xs))) else none)
  else (bif decide (o + l ≤ kr.2.length) && a2k E e (l + xs.length) && xs.all (fun r=>r.all AV.storable) then some (.slice n 0 (l + xs.length) none,.kill b (.row (E.sz e) ((kr.2.drop o).take l ++ xs))) else none)) else none:=by
 simp only [apS]
 cases hb:h b with
 | none=>simp only [hb];rfl
 | some ob=>
  cases ob<;>simp only [hb,a7t,a0j,b5e,c4s]
  rename_i kk rows
  have e1:Nat.beq (o + l) rows.length = decide (o + l = rows.length):=by rw [c1m,b5e]
  rw [e1]
  by_cases h1:o + l = rows.length
  ·rw [decide_eq_true h1,decide_eq_true (by omega:o + l ≤ rows.length)]
   cases decide (kk = E.sz e)<;>rfl
  ·rw [decide_eq_false h1]
   cases decide (kk = E.sz e)<;>cases decide (o + l ≤ rows.length)<;>rfl
@[go_sem] theorem e30 (e:TypeId) (xs:List (List AV)) (b o l c:Nat):apS E h n e xs (.slice b o l (some c)) = a0j (a7t (h b)) fun kr=>
 bif decide (kr.1 = E.sz e) && decide (o + l ≤ kr.2.length) then (bif decide (l + xs.length ≤ c) then
  (bif decide (o + l + xs.length ≤ kr.2.length) && xs.all (fun r=>r.all AV.storable) then some (.slice b o (l + xs.length) (some c),.set b (.row (E.sz e) (kr.2.take (o + l) ++ xs ++ kr.2.drop (o + l + xs.length)))) else none)
  else (bif a2k E e (l + xs.length) then some (.slice n 0 (l + xs.length) none,.new (.row (E.sz e) ((kr.2.drop o).take l ++ xs))) else none)) else none:=by
 simp only [apS]
 cases hb:h b with
 | none=>simp only [hb];rfl
 | some ob=>cases ob<;>simp only [hb,a7t,a0j,b5e,c4s]
theorem a71 {e:TypeId} {k:Nat} (hk:k ≤ 1000000000) (hb:E.bytes e ≤ 1000):a2k E e k = true:=by
 unfold a2k
 rw [decide_eq_true (by omega),Bool.true_and,decide_eq_true_eq]
 calc E.bytes e * (2 * k + 192) ≤ 1000 * (2 * 1000000000 + 192):=Nat.mul_le_mul hb (by omega)
  _ ≤ 281474976710656:=by decide
end
/- The length of a block's rows, by hand. -/
@[go_sem] theorem e39 (a b:Nat):(a:Int).tmod (b:Int) = ((a % b:Nat):Int):=by rfl
@[go_sem] theorem e85 (a:Nat):(a:Int).tmod 2 = ((a % 2:Nat):Int):=by rfl
@[go_sem] theorem e88 (a:Nat):(a:Int).tdiv 2 = ((a / 2:Nat):Int):=by rfl
@[go_sem] theorem e84 (a:Nat):(a:Int).tmod 3 = ((a % 3:Nat):Int):=by rfl
@[go_sem] theorem e83 (a:Nat):(a:Int).tmod 4 = ((a % 4:Nat):Int):=by rfl
@[go_sem] theorem e87 (a:Nat):(a:Int).tdiv 4 = ((a / 4:Nat):Int):=by rfl
@[go_sem] theorem e86 (a:Nat):(a:Int).tdiv 8 = ((a / 8:Nat):Int):=by rfl
@[go_sem] theorem e82 (a:Nat):(a:Int).tmod 9 = ((a % 9:Nat):Int):=by rfl
@[go_sem] theorem e5b (a:Nat):(a:Int).tmod 10 = ((a % 10:Nat):Int):=by rfl
@[go_sem] theorem e5d (a:Nat):(a:Int).tdiv 10 = ((a / 10:Nat):Int):=by rfl
@[go_sem] theorem e5a (a:Nat):(a:Int).tmod 13 = ((a % 13:Nat):Int):=by rfl
@[go_sem] theorem e5c (a:Nat):(a:Int).tdiv 64 = ((a / 64:Nat):Int):=by rfl
theorem wI {n:Nat} (h:n < 9223372036854775808):IntKind.i64.wrap (n:Int) = n:=w64 (by omega) (by omega)
theorem wB {n:Nat} (h:n < 256):IntKind.u8.wrap (n:Int) = n:=IntWalk.u8_in _ ⟨by omega,by omega⟩
theorem wI1 {n:Nat} (h:n < 9223372036854775807):IntKind.i64.wrap ((n:Int) + 1) = ((n + 1:Nat):Int):=by rw [w64 (by omega) (by omega)];rfl
theorem a6q (m b:Nat):a19 m b = bif decide (b < m) then some b else none:=by simp only [a19,c4g]
attribute [go_sem] a6q
/-! ### bytes to a string -/
def byT (E:Env) (s d:TypeId):Bool:=match E.und s,E.und d with
 | some (.slice e),some .string=>match E.und e with|some (.int .u8)=>true|_=>false
 | _,_=>false
section
variable {E:Env} {h:FHeap} {s d:TypeId}
theorem c44 {x:AV} (hb:byT E s d = true) (hx:∀ t,x ≠ .str t):a5t E h s d x = a0j (a1q h 1 x) fun rows=>a0j (a66 rows) fun l=>some (.str l):=by
 unfold byT at hb
 cases hs:E.und s with
 | none=>rw [hs] at hb;cases hb
 | some ds=>
  cases hd:E.und d with
  | none=>rw [hs,hd] at hb;cases ds<;>cases hb
  | some dd=>
   rw [hs,hd] at hb
   cases ds<;>first|(cases hb;done)|skip
   rename_i e
   cases dd<;>first|(cases hb;done)|skip
   simp only at hb
   cases he:E.und e with
   | none=>rw [he] at hb;cases hb
   | some de=>
    rw [he] at hb
    cases de<;>first|(cases hb;done)|skip
    rename_i k
    cases k<;>first|(cases hb;done)|skip
    unfold a5t
    simp only [hs,hd,he]
    cases x<;>first|(exact absurd rfl (hx _))|skip
    all_goals
     simp only [a0j]
     cases a1q h 1 _ with
     | none=>rfl
     | some rows=>simp only;cases a66 rows<;>rfl
@[go_sem] theorem d7s {b o l:Nat} {c:Option Nat} (hb:byT E s d = true):a5t E h s d (.slice b o l c) = a0j (a1q h 1 (.slice b o l c)) fun rows=>a0j (a66 rows) fun l=>some (.str l):=c44 hb (fun _ h=>by cases h)
@[go_sem] theorem e02:a66 [] = some []:=by rfl
@[go_sem] theorem d8t (n:Int) (r:List (List AV)):a66 ([.int .u8 n] :: r) = a0j (a66 r) fun l=>some (UInt8.ofNat n.toNat :: l):=by
 simp only [a66];cases a66 r<;>rfl
end
@[go_sem] theorem e4g {r:List AV} {n:Nat} (h:a0d r = []):(List.replicate n r).flatMap a0d = []:=a03 (FlatR.replicate h)
attribute [go_sem] List.length_replicate List.map_replicate List.length_append List.flatMap_append List.map_append
/-! ### calls that only read -/
def FlatO (o:Option AObj):Prop:=∀ π,o.map (a0m π) = o
theorem FlatO.row {k:Nat} {rows:List (List AV)} (h:FlatR rows):FlatO (some (.row k rows)):=fun π=>by
 simp only [Option.map_some,a0m,a01 π h]
theorem c9e (f:Nat → Option AObj) (σ:List Nat) (j:Nat):a04 (σ.map f) j = (σ[j]?).bind f:=by
 simp only [a04,List.getElem?_map]
 cases σ[j]?<;>simp
theorem b14 {σ:List Nat} {n:Nat} {H:a06} (hf:∀ b ∈ σ,FlatO (a04 H b)):∀ (b:Nat) (H2:a06),(∀ i,H2[i]? = H[b + i]?) → a11 σ n (σ.map (a04 H)) b H2 = H2
 | _,[],_=>rfl
 | b,o :: r,hh=>by
  have ih:=b14 hf (n:=n) (b + 1) r (fun i=>by
   have:=hh (i + 1)
   rw [List.getElem?_cons_succ] at this
   rw [this]
   congr 1
   omega)
  simp only [a11,ih]
  congr 1
  cases hx:σ.idxOf? b with
  | none=>rfl
  | some j=>
   simp only
   have hj:=a1d hx
   have hm:b ∈ σ:=List.mem_of_getElem? hj
   rw [c9e,hj]
   simp only [Option.bind_some]
   rw [hf b hm _]
   have h0:=hh 0
   simp only [List.getElem?_cons_zero,Nat.add_zero] at h0
   simp [a04,← h0]
theorem a38 {E:Env} {draw:Bool} {call:CallF} {g:FuncId} {fs cs ar args:List AV} {H:a06} {v:AV} (σ:List Nat) (hx:E.ext g = false) (hf:(E.fn g).isSome = true) (he:fs ++ ar ++ cs = args)
 (hσ:a2j H 1000000 (a0d args) [] = σ) (hn:a51 σ = true) (hl:(σ.all fun b=>decide (b < H.length)) = true) (hfl:∀ b ∈ σ,FlatO (a04 H b))
 {args':List AV} (ha:args.map (ren (a50 σ)) = args') {H0:a06} (hH:σ.map (a04 H) = H0) (hr:call g args' H0 = some (v,H0)) (hv:refs v = []) :
 a0e E draw call (.func (.func g) fs cs) ar H = some (v,H,σ):=by
 have hs:a1n H σ (a50 σ) = H0:=by
  rw [← hH]
  unfold a1n
  exact List.map_congr_left fun b hb=>hfl b hb _
 have hc:=a0y (call g) args H hσ hn hl ha hs hr
 have e1:ren (a18 σ H.length) v = v:=a2b _ v hv
 have e2:a11 σ H.length H0 0 H = H:=by
  rw [← hH];exact b14 hfl 0 H (fun i=>by rw [Nat.zero_add])
 have e3:H0.drop σ.length = []:=by rw [← hH];simp
 rw [e1,e2,e3,List.map_nil,List.append_nil] at hc
 exact a23 hx hf he hc rfl
end Go.Ax
/- AxMore: facts that all say 'true'; loops over any states; what a heap's values a2j. -/
namespace Go.Ax
theorem a20 {E:Env} {M:List Fact} (hT:∀ y ∈ M,y.v = .bool true) {x:Fact} (hx:x ∈ M):sem E M x.g x.args [] = some (.bool true,[]):=by
 have h:sem E M x.g x.args [] = some (x.v,[]):=b0g.2 (.fact x hx (fun y hy _ _=>by rw [hT y hy,hT x hx]))
 rw [hT x hx] at h
 exact h
/-! ### what is reached -/
theorem a9g {f:Nat → Nat}:∀ {L:List Nat} {b:Nat},b ∈ L → (L.map f).sum = f b + ((L.erase b).map f).sum
 | [],b,h=>by simp at h
 | a :: L,b,h=>by
  by_cases hab:a = b
  ·subst hab;simp
  ·have hb:b ∈ L:=by simpa [Ne.symm hab] using h
   rw [List.erase_cons_tail (by simpa using hab)]
   simp only [List.map_cons,List.sum_cons,a9g hb]
   omega
structure Reached (H:a06) (init σ:List Nat):Prop where
 nodup:σ.Nodup
 start:∀ b ∈ init,b ∈ σ
 closed:∀ b ∈ σ,∀ c ∈ a0v (a04 H b),c ∈ σ
 least:∀ T:Nat → Prop,(∀ b ∈ init,T b) → (∀ b,T b → ∀ c ∈ a0v (a04 H b),T c) → ∀ b ∈ σ,T b
theorem b5y (H:a06):∀ (n:Nat) (todo acc L:List Nat),acc.Nodup → (∀ b ∈ acc,∀ c ∈ a0v (a04 H b),c ∈ acc ∨ c ∈ todo) → (∀ b ∈ todo,b ∈ acc ∨ b ∈ L) → (∀ b ∈ L,∀ c ∈ a0v (a04 H b),c ∈ acc ∨ c ∈ L) →
 todo.length + (L.map fun b=>(a0v (a04 H b)).length).sum < n →
 (a2j H n todo acc).Nodup ∧ (∀ b ∈ acc,b ∈ a2j H n todo acc) ∧ (∀ b ∈ todo,b ∈ a2j H n todo acc) ∧ (∀ b ∈ a2j H n todo acc,∀ c ∈ a0v (a04 H b),c ∈ a2j H n todo acc) ∧
 ∀ T:Nat → Prop,(∀ b ∈ acc,T b) → (∀ b ∈ todo,T b) → (∀ b,T b → ∀ c ∈ a0v (a04 H b),T c) → ∀ b ∈ a2j H n todo acc,T b
 | 0,todo,acc,L,_,_,_,_,hn=>by omega
 | n + 1,[],acc,L,h1,h2,h3,h4,hn=>by
  unfold a2j
  refine ⟨List.pairwise_reverse.2 (h1.imp fun h=>Ne.symm h),by simp,by simp,?_,?_⟩
  ·intro b hb c hc
   rcases h2 b (by simpa using hb) c hc with h|h
   ·simpa using h
   ·simp at h
  ·intro T t1 t2 t3 b hb;exact t1 b (by simpa using hb)
 | n + 1,b :: todo,acc,L,h1,h2,h3,h4,hn=>by
  unfold a2j
  cases hc:a1f acc b with
  | true=>
   have hb:b ∈ acc:=a2m.1 hc
   simp only [cond_true]
   obtain ⟨r1,r2,r3,r4,r5⟩:=b5y H n todo acc L h1 (fun x hx c hcc=>by
    rcases h2 x hx c hcc with h|h
    ·exact .inl h
    ·simp only [List.mem_cons] at h
     rcases h with rfl|h
     ·exact .inl hb
     ·exact .inr h) (fun x hx=>h3 x (by simp [hx])) h4 (by simp only [List.length_cons] at hn;omega)
   refine ⟨r1,r2,?_,r4,?_⟩
   ·intro x hx
    simp only [List.mem_cons] at hx
    rcases hx with rfl|hx
    ·exact r2 _ hb
    ·exact r3 x hx
   ·intro T t1 t2 t3;exact r5 T t1 (fun x hx=>t2 x (by simp [hx])) t3
  | false=>
   have hb:b ∉ acc:=fun h=>by rw [a2m.2 h] at hc;cases hc
   simp only [cond_false]
   have hbL:b ∈ L:=(h3 b (by simp)).resolve_left hb
   have hs:=a9g (f:=fun b=>(a0v (a04 H b)).length) hbL
   obtain ⟨r1,r2,r3,r4,r5⟩:=b5y H n (a0v (a04 H b) ++ todo) (b :: acc) (L.erase b) (List.nodup_cons.2 ⟨hb,h1⟩) (fun x hx c hcc=>by
    simp only [List.mem_cons] at hx ⊢
    rcases hx with rfl|hx
    ·exact .inr (by simp [hcc])
    ·rcases h2 x hx c hcc with h|h
     ·exact .inl (.inr h)
     ·simp only [List.mem_cons] at h
      rcases h with rfl|h
      ·exact .inl (.inl rfl)
      ·exact .inr (by simp [h])) (fun x hx=>by
    have hx':x ∈ acc ∨ x ∈ L:=by
     rw [List.mem_append] at hx
     rcases hx with hx|hx
     ·exact h4 b hbL x hx
     ·exact h3 x (by simp [hx])
    by_cases hxb:x = b
    ·exact .inl (by simp [hxb])
    ·rcases hx' with h|h
     ·exact .inl (by simp [h])
     ·exact .inr ((List.mem_erase_of_ne hxb).2 h)) (fun x hx c hcc=>by
    have:=h4 x (List.mem_of_mem_erase hx) c hcc
    by_cases hxb:c = b
    ·exact .inl (by simp [hxb])
    ·rcases this with h|h
     ·exact .inl (by simp [h])
     ·exact .inr ((List.mem_erase_of_ne hxb).2 h)) (by
    simp only [List.length_cons] at hn
    rw [hs] at hn
    simp only [List.length_append]
    omega)
   refine ⟨r1,fun x hx=>r2 x (by simp [hx]),?_,r4,?_⟩
   ·intro x hx
    simp only [List.mem_cons] at hx
    rcases hx with rfl|hx
    ·exact r2 _ (by simp)
    ·exact r3 x (by simp [hx])
   ·intro T t1 t2 t3
    refine r5 T ?_ ?_ t3
    ·intro x hx
     simp only [List.mem_cons] at hx
     rcases hx with rfl|hx
     ·exact t2 _ (by simp)
     ·exact t1 x hx
    ·intro x hx
     rw [List.mem_append] at hx
     rcases hx with hx|hx
     ·exact t3 b (t2 b (by simp)) x hx
     ·exact t2 x (by simp [hx])
theorem b4m {H:a06} {init:List Nat} (S:List Nat) (h1:∀ b ∈ init,b ∈ S) (h2:∀ b ∈ S,∀ c ∈ a0v (a04 H b),c ∈ S)
 (hn:init.length + (S.map fun b=>(a0v (a04 H b)).length).sum < 1000000):Reached H init (a2j H 1000000 init []):=by
 obtain ⟨r1,_,r3,r4,r5⟩:=b5y H 1000000 init [] S List.nodup_nil (fun b hb=>by simp at hb) (fun b hb=>.inr (h1 b hb)) (fun b hb c hc=>.inr (h2 b hb c hc)) hn
 exact ⟨r1,r3,r4,fun T t1 t2=>r5 T (fun b hb=>by simp at hb) t1 t2⟩
theorem a9n:∀ {l:List Nat},l.Nodup → a51 l = true
 | [],_=>rfl
 | a :: l,h=>by
  rw [List.nodup_cons] at h
  have hc:a1f l a = false:=by
   cases hc:a1f l a with
   | false=>rfl
   | true=>exact absurd (a2m.1 hc) h.1
  rw [c00,hc,a9n h.2];rfl
structure Gc (m:Nat) (F:Frm) (H:a06) (R:Nat → Prop) (π:Nat → Option Nat) (H1:a06):Prop where
 low:∀ b,b < m → π b = some b
 inj:∀ a b c,π a = some c → π b = some c → a = b
 refs:∀ b ∈ a0d (F.map (·.2)),R b
 lows:∀ b,b < m → ∀ c ∈ a0v (a04 H b),R c
 closed:∀ b,R b → ∀ c ∈ a0v (a04 H b),R c
 least:∀ T:Nat → Prop,(∀ b ∈ a0d (F.map (·.2)),T b) → (∀ b,b < m → ∀ c ∈ a0v (a04 H b),T c) → (∀ b,T b → ∀ c ∈ a0v (a04 H b),T c) → ∀ b,R b → T b
 here:∀ b,R b → ∃ c,π b = some c
 heap:∀ b c,π b = some c → a04 H1 c = (a04 H b).map (a0m π)
 len:∀ T:List Nat,(∀ b,R b → m ≤ b → b ∈ T) → H1.length ≤ m + T.length
theorem b6a {m:Nat} {H:a06} {c:Nat}:c ∈ (H.take m).flatMap a0v ↔ ∃ b,b < m ∧ c ∈ a0v (a04 H b):=by
 simp only [List.mem_flatMap]
 constructor
 ·rintro ⟨o,ho,hc⟩
  obtain ⟨b,hb⟩:=List.mem_iff_getElem?.1 ho
  rw [List.getElem?_take] at hb
  split at hb
  case isFalse=>cases hb
  rename_i hlt
  refine ⟨b,hlt,?_⟩
  simp only [a04,hb,Option.join_some]
  exact hc
 ·rintro ⟨b,hlt,hc⟩
  cases hb:H[b]? with
  | none=>simp [a04,hb,a0v] at hc
  | some o=>
   refine ⟨o,List.mem_iff_getElem?.2 ⟨b,by rw [List.getElem?_take,if_pos hlt,hb]⟩,?_⟩
   simpa [a04,hb] using hc
theorem b2p:∀ {l T:List Nat},l.Nodup → (∀ b ∈ l,b ∈ T) → l.length ≤ T.length
 | [],_,_,_=>by simp
 | a :: l,T,hnd,hsub=>by
  rw [List.nodup_cons] at hnd
  have ha:a ∈ T:=hsub a (by simp)
  have:=b2p (l:=l) (T:=T.erase a) hnd.2 (fun b hb=>(List.mem_erase_of_ne (fun e=>hnd.1 (by rw [← e];exact hb))).2 (hsub b (by simp [hb])))
  rw [List.length_erase_of_mem ha] at this
  have:0 < T.length:=List.length_pos_of_mem ha
  simp only [List.length_cons];omega
theorem c7h {m:Nat} {keep:List Nat} {F:Frm} {H:a06} (hm:m ≤ H.length) (S:List Nat) (h1:∀ b ∈ a0d ((a1j keep F).map (·.2)),b ∈ S) (h2:∀ b,b < m → ∀ c ∈ a0v (a04 H b),c ∈ S) (h3:∀ b ∈ S,∀ c ∈ a0v (a04 H b),c ∈ S)
 (hn:((H.take m).flatMap a0v).length + (a0d ((a1j keep F).map (·.2))).length + (S.map fun b=>(a0v (a04 H b)).length).sum < 1000000) :
 ∃ (R:Nat → Prop) (π:Nat → Option Nat) (H1:a06),gcD m keep F H = some (b9d π (a1j keep F),H1) ∧ Gc m (a1j keep F) H R π H1 ∧ m ≤ H1.length:=by
 have hr:=b4m (H:=H) (init:=(H.take m).flatMap a0v ++ a0d ((a1j keep F).map (·.2))) S (fun b hb=>by
  rw [List.mem_append] at hb
  rcases hb with hb|hb
  ·obtain ⟨a,ha,hc⟩:=b6a.1 hb;exact h2 a ha b hc
  ·exact h1 b hb) h3 (by rw [List.length_append];exact hn)
 generalize hρ:a2j H 1000000 ((H.take m).flatMap a0v ++ a0d ((a1j keep F).map (·.2))) [] = ρ at hr
 have hσ:b0r m (a1j keep F) H = ρ.filter fun b=>decide (m ≤ b):=by rw [a00,hρ]
 have hnd:(ρ.filter fun b=>decide (m ≤ b)).Nodup:=hr.nodup.filter _
 have hmem:∀ b,b ∈ (ρ.filter fun b=>decide (m ≤ b)) ↔ b ∈ ρ ∧ m ≤ b:=fun b=>by rw [List.mem_filter];simp
 have hml:(H.take m).length = m:=by simp;omega
 have hlen:(gcH m (ρ.filter fun b=>decide (m ≤ b)) H).length = m + (ρ.filter fun b=>decide (m ≤ b)).length:=by
  rw [d47];simp [a1n];omega
 refine ⟨(·∈ ρ),b6d m (ρ.filter fun b=>decide (m ≤ b)),gcH m (ρ.filter fun b=>decide (m ≤ b)) H,?_,?_,by rw [hlen];omega⟩
 ·rw [a02,hσ,a9n hnd,decide_eq_true hm]
  have:(ρ.filter fun b=>decide (m ≤ b)).all (fun b=>decide (m ≤ b)) = true:=by
   rw [List.all_eq_true];intro b hb;simpa using ((hmem b).1 hb).2
  rw [this];rfl
 ·have hπ:∀ b,b6d m (ρ.filter fun b=>decide (m ≤ b)) b = if b < m then some b else ((ρ.filter fun b=>decide (m ≤ b)).idxOf? b).map (m + ·):=by
   intro b;rw [c7i];by_cases h:b < m<;>simp [h]
  refine ⟨fun b hb=>by rw [hπ,if_pos hb],?_,fun b hb=>hr.start b (by simp [hb]),fun b hb c hc=>hr.start c (by rw [List.mem_append];exact .inl (b6a.2 ⟨b,hb,hc⟩)),fun b hb c hc=>hr.closed b hb c hc,?_,?_,?_,?_⟩
  ·intro a b c ha hb
   rw [hπ] at ha hb
   split at ha<;>split at hb
   ·cases ha;cases hb;rfl
   ·cases ha;obtain ⟨j,hj,e⟩:=a09 hb;omega
   ·cases hb;obtain ⟨j,hj,e⟩:=a09 ha;omega
   ·obtain ⟨i,hi,e1⟩:=a09 ha
    obtain ⟨j,hj,e2⟩:=a09 hb
    have g1:=a1d hi
    have g2:=a1d hj
    obtain rfl:i = j:=by omega
    rw [g1] at g2;exact z9o g2
  ·intro T t1 t2 t3 b hb
   refine hr.least T (fun x hx=>?_) t3 b hb
   rw [List.mem_append] at hx
   rcases hx with hx|hx
   ·obtain ⟨a,ha,hc⟩:=b6a.1 hx;exact t2 a ha x hc
   ·exact t1 x hx
  ·intro b hb
   rw [hπ]
   split
   ·exact ⟨_,rfl⟩
   ·rename_i h
    have hbf:=(hmem b).2 ⟨hb,by omega⟩
    obtain ⟨j,hj⟩:=List.mem_iff_getElem?.1 hbf
    rw [a32 hnd hj]
    exact ⟨_,rfl⟩
  ·intro b c hbc
   have hbc':=hbc
   rw [hπ] at hbc'
   rw [d47]
   split at hbc'
   ·rename_i h
    cases hbc'
    simp only [a04]
    rw [List.getElem?_append_left (by simp;omega),List.getElem?_map,List.getElem?_take,if_pos h]
    cases H[b]? with
    | none=>rfl
    | some o=>rfl
   ·rename_i h
    obtain ⟨j,hj,rfl⟩:=a09 hbc'
    have hg:=a1d hj
    simp only [a04]
    rw [List.getElem?_append_right (by simp only [List.length_map,hml];omega)]
    simp only [List.length_map,hml,Nat.add_sub_cancel_left,a1n,List.getElem?_map,hg,Option.map_some,Option.join_some]
    rfl
  ·intro T hT
   rw [hlen]
   have:(ρ.filter fun b=>decide (m ≤ b)).length ≤ T.length:=by
    have hsub:∀ b ∈ (ρ.filter fun b=>decide (m ≤ b)),b ∈ T:=fun b hb=>hT b ((hmem b).1 hb).1 ((hmem b).1 hb).2
    exact b2p hnd hsub
   omega
end Go.Ax
/- AxZ: a function whose own memory is frozen behind each of its outermost statements. -/
namespace Go.Ax
def e4s (E:Env) (m0 N:Nat) (keep:Nat → List Nat) (call:FuncId → List AV → a06 → Option (AV × a06)) (lf:Nat) {R:Type}:Nat → Code → Frm → a06 → (AExit → Frm → a06 → Option R) → Option R
 | cur,.seq a b,F,H,k=>e4s E m0 N keep call lf cur a F H fun e F' H'=>match e with
  | .normal=>e4s E m0 N keep call lf cur b (c0d m0 H' F') (c0c m0 H') k
  | e=>k e F' H'
 | cur,c,F,H,k=>a6b E m0 N keep call lf cur c F H k
theorem d2l {E:Env} (ok:EnvOk E) {call:FuncId → List AV → a06 → Option (AV × a06)} (hcall:a3c E call) {e:Entry} {N lf:Nat} {keep:Nat → List Nat} {R:Type}:∀ (c:Code),a26 c = true →
 ∀ {cur:Nat} {k:AExit → Frm → a06 → Option R} {r:R} {Q:Exit → Act → World → Prop},(∀ x F H I ρ a w,Now E e N F H I ρ a w → k x F H = some r → Q x.conv a w) →
 ∀ {F:Frm} {H:a06} {I:Nat → Prop} {ρ:PMap} {a:Act} {w:World},Now E e N F H I ρ a w → e4s E e.m N keep call lf cur c F H k = some r → c.wp E.P Q a w:=by
 intro c
 induction c with
 | seq x y ihx ihy=>
  intro hst cur k r Q hQ F H I ρ a w hnow hrun
  simp only [a26,Bool.and_eq_true] at hst
  refine wp_seq (ihx hst.1 ?_ hnow hrun)
  intro x F H I ρ a w hn hk
  cases x with
  | normal=>
   obtain ⟨I',ρ',h'⟩:=hn.frz
   exact ihy hst.2 hQ h' hk
  | exit id=>exact hQ (.exit id) F H I ρ a w hn hk
  | ret=>exact hQ .ret F H I ρ a w hn hk
 | _=>intro hst cur k r Q hQ F H I ρ a w hnow hrun;exact c8a ok hcall _ hst hQ hnow hrun
def e5n (E:Env) (call:FuncId → List AV → a06 → Option (AV × a06)) (lf:Nat) (f:FuncId) (args:List AV) (H:a06):Option (AV × a06):=
 match E.fn f with
 | none=>none
 | some i=>bif Nat.ble args.length i.ntmps then
  e4s E H.length i.ntmps (E.keep f) call lf 0 i.code (a3n 0 args) H fun e F' H'=>match e with
   | .exit _=>none
   | _=>match a1b E F' H' i.results with
    | some vs=>a2a (E.thaw f) H.length (a45 vs) H'
    | none=>none
  else none
theorem d5q {E:Env} (ok:EnvOk E) (hdr:∀ f i,E.fn f = some i → a26 i.code = true) {call:FuncId → List AV → a06 → Option (AV × a06)} (hcall:a3c E call) (lf:Nat):a3c E (e5n E call lf):=by
 intro g args H v H' hrun I K ρ w cargs rel hn ha
 unfold e5n at hrun
 split at hrun
 ·cases hrun
 rename_i i hi
 rw [cond_eq_ite] at hrun
 split at hrun
 case isFalse=>cases hrun
 rename_i hle
 obtain ⟨fn,h1,h2,h3,h4,_⟩:=ok.fn g i hi
 refine calls_of_wp h1 h2 ?_
 rw [h3]
 let e:Entry:=⟨I,K,ρ,H.length,w,[]⟩
 have hnow:Now E e i.ntmps (a3n 0 args) H I ρ { tmps:=cargs.toArray ++ Array.replicate (i.ntmps - cargs.toArray.size) undef,defers:=[] } w:=
  ⟨fun _ h=>h,fun _ _=>rfl,Ext.refl _ _ _,rel,hn,b8h (by simpa [Nat.ble_eq] using hle) ha,Nat.le_refl _,rfl⟩
 refine d2l (e:=e) ok hcall i.code (hdr g i hi) ?_ hnow hrun
 intro x F' H1 I1 ρ1 a w1 hn1 hk
 have fin:(match a1b E F' H1 i.results with
  | some vs=>a2a (E.thaw g) H.length (a45 vs) H1
  | none=>none) = some (v,H') → a.defers = [] ∧ ∃ c,(results fn a.tmps).run E.P w1 = .ok c w1 ∧ ∃ c' I' ρ',Ending.returned c = .returned c' ∧ Ret E I K ρ H.length w I' ρ' H' w1 ∧ VRel I' w1 ρ' v c':=by
  intro hk
  split at hk
  case h_2=>cases hk
  rename_i vs hvs
  rw [← h4] at hvs
  obtain ⟨c,hr,hv⟩:=b4g ok hn1.rel hn1.frm.2 hvs
  obtain ⟨I2,ρ2,f1,f2,f3,f4,f5,f6⟩:=b8f hk hn1.low hn1.rel hn1.nrel hv
  exact ⟨hn1.defers,c,hr,c,I2,ρ2,rfl,⟨fun c hc=>f1 c (hn1.imm c hc),fun b hb=>by rw [f2 b hb];exact hn1.map b hb,hn1.ext,f3,f4,f5⟩,f6⟩
 cases x with
 | normal=>exact fin hk
 | exit id=>cases hk
 | ret=>exact fin hk
theorem d25 {E:Env} (ok:EnvOk E) (hdr:∀ f i,E.fn f = some i → a26 i.code = true) {M:List Fact} (hM:∀ x ∈ M,a0i E x) (n:Nat) {g:Nat} {args:List AV} {v:AV} (h:e5n E (c6o E M n) n g args [] = some (v,[])) :
 a0i E ⟨g,args,v⟩:=d5q ok hdr (b65 ok hdr hM n) n g args [] v [] h
end Go.Ax
/- AxGrow: grown slices; calls that read one block. -/
namespace Go.Ax
def grV (b:Nat):List (List AV) → AV|[]=>.nilslice|_ :: rs=>.slice b 0 (rs.length + 1) none
def grH (k:Nat):List (List AV) → a06|[]=>[]|r :: rs=>[some (.row k (r :: rs))]
theorem a0q (b:Nat):grV b [] = .nilslice:=by rfl
theorem a0r (k:Nat):grH k [] = []:=by rfl
theorem a0a (b:Nat) (r:List AV) (rs:List (List AV)):grV b (r :: rs) = .slice b 0 (rs.length + 1) none:=by rfl
theorem a0b (k:Nat) (r:List AV) (rs:List (List AV)):grH k (r :: rs) = [some (.row k (r :: rs))]:=by rfl
theorem b1s (b:Nat) (l:List (List AV)) (x:List AV):grV b (l ++ [x]) = .slice b 0 (l.length + 1) none:=by cases l<;>simp [grV]
theorem b6c (k:Nat) (l:List (List AV)) (x:List AV):grH k (l ++ [x]) = [some (.row k (l ++ [x]))]:=by cases l<;>simp [grH]
theorem a82 (b:Nat) {l:List (List AV)} (h:l ≠ []):grV b l = .slice b 0 l.length none:=by cases l with|nil=>exact absurd rfl h|cons a r=>rfl
theorem a83 (k:Nat) {l:List (List AV)} (h:l ≠ []):grH k l = [some (.row k l)]:=by cases l with|nil=>exact absurd rfl h|cons a r=>rfl
theorem b29 {H:a06} {b:Nat} (hr:a0v (a04 H b) = []):a2j H 1000000 [b] [] = [b]:=by
 have e1:∀ n,a2j H (n + 2) [b] [] = [b]:=by
  intro n
  unfold a2j
  simp only [a1f,cond_false,hr,List.append_nil]
  unfold a2j
  rfl
 exact e1 999998
theorem a3f {E:Env} {draw:Bool} {call:CallF} {g:FuncId} {fs cs ar args:List AV} {H:a06} {v:AV} {b:Nat} {o:AObj} (hx:E.ext g = false) (hf:(E.fn g).isSome = true) (he:fs ++ ar ++ cs = args)
 (hb:a04 H b = some o) (ho:a0v (some o) = []) (hfl:FlatO (some o)) (hargs:a0d args = [b]) {args':List AV} (ha:args.map (ren (a50 [b])) = args') (hr:call g args' [some o] = some (v,[some o])) (hv:refs v = []) :
 a0e E draw call (.func (.func g) fs cs) ar H = some (v,H,[b]):=by
 have hlt:b < H.length:=by
  unfold a04 at hb
  cases hh:H[b]? with
  | none=>rw [hh] at hb;cases hb
  | some x=>exact (List.getElem?_eq_some_iff.1 hh).1
 refine a38 [b] hx hf he (by rw [hargs];exact b29 (by rw [hb];exact ho)) rfl (by simpa using hlt) ?_ ha (by simp only [List.map_cons,List.map_nil,hb]) hr hv
 intro c hc
 simp only [List.mem_singleton] at hc
 subst hc;rw [hb];exact hfl
theorem a0t {k:Nat} {rows:List (List AV)} (h:FlatR rows):a0v (some (.row k rows)) = []:=by
 simp only [a0v];exact a03 h
theorem a0k {H:a06} {b:Nat} {o:AObj} (hb:a04 H b = some o):b < H.length:=by
 unfold a04 at hb
 cases hh:H[b]? with
 | none=>rw [hh] at hb;cases hb
 | some x=>exact (List.getElem?_eq_some_iff.1 hh).1
theorem c0z {H:a06} {b:Nat} {o:AObj} (hb:a04 H b = some o):H.set b (some o) = H:=by
 have hlt:=a0k hb
 unfold a04 at hb
 rw [z9e hlt] at hb
 simp only [Option.join_some] at hb
 rw [← hb];exact List.set_getElem_self hlt
theorem a94 (b n:Nat) (o:Option AObj) (ho:∀ π,o.map (a0m π) = o):∀ (s:Nat) (H:a06),s ≤ b → a11 [b] n [o] s H = H.set (b - s) o
 | s,[],_=>by simp [a11]
 | s,x :: H,hs=>by
  simp only [a11]
  by_cases hsb:s = b
  ·subst hsb
   have e:([s]:List Nat).idxOf? s = some 0:=by simp [List.idxOf?_cons]
   have hrest:∀ (t:Nat) (H:a06),s < t → a11 [s] n [o] t H = H:=by
    intro t H
    induction H generalizing t with
    | nil=>intro _;rfl
    | cons y H ih=>
     intro ht
     have e2:([s]:List Nat).idxOf? t = none:=by simp [List.idxOf?_cons];omega
     simp only [a11,e2,ih (t + 1) (by omega)]
   simp only [e,hrest (s + 1) H (by omega),Nat.sub_self,List.set_cons_zero]
   congr 1
   exact ho _
  ·have e:([b]:List Nat).idxOf? s = none:=by simp [List.idxOf?_cons];omega
   have e2:b - s = (b - (s + 1)) + 1:=by omega
   rw [e2,List.set_cons_succ]
   simp only [e,a94 b n o ho (s + 1) H (by omega)]
theorem a1y {E:Env} {draw:Bool} {call:CallF} {g:FuncId} {fs cs ar args:List AV} {H:a06} {v v':AV} {b:Nat} {o o':AObj} (hx:E.ext g = false) (hf:(E.fn g).isSome = true) (he:fs ++ ar ++ cs = args)
 (hb:a04 H b = some o) (ho:a0v (some o) = []) (hfl:FlatO (some o)) (hargs:a0d args = [b]) {args':List AV} (ha:args.map (ren (a50 [b])) = args') (hr:call g args' [some o] = some (v,[some o'])) (hfl':FlatO (some o')) (hv:ren (a18 [b] H.length) v = v') :
 a0e E draw call (.func (.func g) fs cs) ar H = some (v',H.set b (some o'),[b]):=by
 have hlt:=a0k hb
 have hc:=a0y (call g) args H (σ:=[b]) (by rw [hargs];exact b29 (by rw [hb];exact ho)) rfl (by simpa using hlt) ha (H0:=[some o]) (by simp only [a1n,List.map_cons,List.map_nil,hb];congr 1;exact hfl _) hr
 rw [hv,a94 b _ _ hfl' 0 H (Nat.zero_le _)] at hc
 simp only [Nat.sub_zero,List.drop_succ_cons,List.drop_zero,List.map_nil,List.append_nil,List.length_cons,List.length_nil] at hc
 exact a23 hx hf he hc (by simp)
theorem a59 (b o l:Nat) (c:Option Nat):ren (a50 [b]) (.slice b o l c) = .slice 0 o l c:=by simp [ren,a50]
theorem b3p (b o n l:Nat) (c:Option Nat):ren (a18 [b] n) (.slice 0 o l c) = .slice b o l c:=by rfl
/-! ### slices of slices -/
def inB (i:Int) (n:Nat):Bool:=decide (0 ≤ i) && decide (i ≤ (n:Int))
@[go_sem] theorem e6l (a n:Nat):inB (a:Int) n = decide (a ≤ n):=by
 unfold inB
 rw [decide_eq_true (by omega),Bool.true_and,Bool.eq_iff_iff,decide_eq_true_eq,decide_eq_true_eq]
 omega
@[go_sem] theorem f2l (n:Nat):inB 0 n = true:=by simp [inB]
theorem a8p {k:IntKind} {i:Int} {n d:Nat}:a1e (some (.int k i)) n d = bif inB i n then some i.toNat else none:=by rfl
attribute [go_sem] Option.map_some Option.map_none
section
variable {E:Env} {h:FHeap} {t:TypeId}
theorem a8o {x:AV} {lo hi mx:Option AV} (hs:slT E t = none) (hx:∀ s,x ≠ .str s):a3g E h t x lo hi mx = none:=by
 unfold a3g
 unfold slT at hs
 cases hu:E.und t with
 | none=>rfl
 | some d=>
  rw [hu] at hs
  cases d<;>first|(cases hs;done)|(cases x<;>first|rfl|exact absurd rfl (hx _))
@[go_sem] theorem d8c {k k':IntKind} {i j:Int}:a3g E h t .nilslice none (some (.int k i)) (some (.int k' j)) = a0j (slT E t) fun e=>bif isT E e && inB j 0 && inB i j.toNat then some .nilslice else none:=by
 cases hs:slT E t with
 | none=>exact a8o hs (fun _ h=>by cases h)
 | some e=>
  simp only [a3g,a3a.1 hs,a0j,a8p,isT]
  cases (E.und e).isSome<;>cases inB j 0<;>first|rfl|(simp only [cond_true,Bool.true_and];cases inB i j.toNat<;>rfl)
@[go_sem] theorem d9v {b o n:Nat} {c:Option Nat} {k k':IntKind} {i j:Int}:a3g E h t (.slice b o n c) none (some (.int k i)) (some (.int k' j)) = a0j (slT E t) fun e=>a0j (a7t (h b)) fun kr=>bif isT E e && decide (kr.1 = E.sz e) && inB j (a14 n c) && inB i j.toNat then some (.slice b o i.toNat (some j.toNat)) else none:=by
 cases hs:slT E t with
 | none=>exact a8o hs (fun _ h=>by cases h)
 | some e=>
  simp only [a3g,a3a.1 hs,a0j,a8p,isT]
  cases hb:h b with
  | none=>cases (E.und e).isSome<;>rfl
  | some ob=>cases ob with
   | map=>cases (E.und e).isSome<;>rfl
   | siter=>cases (E.und e).isSome<;>rfl
   | row kk rows=>
    simp only [a7t,b5e]
    cases (E.und e).isSome<;>cases decide (kk = E.sz e)<;>cases inB j (a14 n c)<;>first|rfl|(simp only [cond_true,Bool.true_and];cases inB i j.toNat<;>rfl)
@[go_sem] theorem d9u {b o n:Nat} {c:Option Nat} {k:IntKind} {j:Int}:a3g E h t (.slice b o n c) none (some (.int k j)) none = a0j (slT E t) fun e=>a0j (a7t (h b)) fun kr=>bif isT E e && decide (kr.1 = E.sz e) && inB j (a14 n c) then some (.slice b o j.toNat c) else none:=by
 cases hs:slT E t with
 | none=>exact a8o hs (fun _ h=>by cases h)
 | some e=>
  have hc:c.map (fun x=>x - 0) = c:=by cases c<;>rfl
  simp only [a3g,a3a.1 hs,a0j,a8p,isT]
  cases hb:h b with
  | none=>cases (E.und e).isSome<;>rfl
  | some ob=>cases ob with
   | map=>cases (E.und e).isSome<;>rfl
   | siter=>cases (E.und e).isSome<;>rfl
   | row kk rows=>
    simp only [a7t,b5e]
    have e0:∀ m,a1e (none:Option AV) m 0 = some 0:=fun _=>rfl
    cases (E.und e).isSome<;>cases decide (kk = E.sz e)<;>cases inB j (a14 n c)<;>first|rfl|(simp only [cond_true,Bool.true_and,e0,hc];rfl)
def slP:Option (Option Nat) → List (List AV) → Nat → Nat → AV
 | none,[],_,_=>.nilslice
 | none,r :: rs,i,j=>.islice (((r :: rs).take j).drop i) none
 | some c,rows,i,j=>.islice ((rows.take j).drop i) (c.map (·- i))
theorem b92 {rows:List (List AV)} {c:Option Nat} {k k':IntKind} {i j:Int}:a3g E h t (.islice rows c) (some (.int k i)) (some (.int k' j)) none = a0j (slT E t) fun e=>bif isT E e && rows.all (fun r=>decide (r.length = E.sz e)) && inB j rows.length && inB i j.toNat then some (.islice ((rows.take j.toNat).drop i.toNat) (c.map (·- i.toNat))) else none:=by
 cases hs:slT E t with
 | none=>exact a8o hs (fun _ h=>by cases h)
 | some e=>
  have e1:(fun r:List AV=>r.length == E.sz e) = fun r=>decide (r.length = E.sz e):=funext fun r=>b5e _ _
  simp only [a3g,a3a.1 hs,a0j,a8p,isT,e1]
  cases (E.und e).isSome<;>cases rows.all (fun r=>decide (r.length = E.sz e))<;>cases inB j rows.length<;>first|rfl|(simp only [cond_true,Bool.true_and];cases inB i j.toNat<;>rfl)
@[go_sem] theorem d8d {rows:List (List AV)} {c:Option (Option Nat)} {k k':IntKind} {i j:Int}:a3g E h t (sl c rows) (some (.int k i)) (some (.int k' j)) none = a0j (slT E t) fun e=>bif isT E e && rows.all (fun r=>decide (r.length = E.sz e)) && inB j rows.length && inB i j.toNat then some (slP c rows i.toNat j.toNat) else none:=by
 cases c with
 | some c=>rw [a2v];exact b92
 | none=>cases rows with
  | cons a r=>rw [a5x];exact b92
  | nil=>
   rw [b9n]
   cases hs:slT E t with
   | none=>exact a8o hs (fun _ h=>by cases h)
   | some e=>
    simp only [a3g,a3a.1 hs,a0j,a8p,isT,List.all_nil,Bool.and_true,List.length_nil]
    cases (E.und e).isSome<;>cases inB j 0<;>first|rfl|(simp only [cond_true,Bool.true_and];cases inB i j.toNat<;>rfl)
end
attribute [go_sem] Nat.le_refl Int.toNat_natCast
@[go_sem] theorem b7d {α β:Type} (f:α → β) (l:List α):(l.map f).take l.length = l.map f:=by rw [← List.length_map (f:=f),List.take_length]
attribute [go_sem] List.take_length
@[go_sem] theorem c8f (n c:Nat):a14 n (some c) = c:=by rfl
@[go_sem] theorem c8g (n:Nat):a14 n none = n:=by rfl
end Go.Ax
/- AxMelt: calls over flat arguments that return a pointer to a block of their own. -/
namespace Go.Ax
@[go_sem] theorem d7g {v:AV} {H:a06}:a2a true 0 v H = e1i 0 v H:=by rfl
theorem c3y {m:Nat} (hm:(m = 0) = False) {v:AV} {H:a06}:a2a true m v H = some (v,H):=by
 cases m with
 | zero=>simp at hm
 | succ n=>rfl
attribute [go_sem] c3y
@[go_sem] theorem e1h {m:Nat} {H:a06}:e1i m .nilslice H = some (.nilslice,(H.take m).map (Option.map (a0m (a19 m)))):=by rfl
end Go.Ax
/- AxCpy: copy and clear, ar rewrite rules. -/
namespace Go.Ax
section
variable {E:Env} {draw:Bool} {call:CallF} {F:Frm} {H:a06} {h:FHeap}
@[go_sem] theorem e5i (x y:Operand) (t u:TypeId):a0z E draw call F H (.call { callee:=.builtin .copy,args:=#[x,y],argTypes:=#[t,u] }) = a0j (b3t E (a04 H) t (opv E F x) (opv E F y)) fun z=>bif z.2.fits H.length then some (z.1,b01 H z.2,⟨a0u (opv E F x) ++ a0u (opv E F y),z.2.keys H.length⟩) else none:=
 a52 rfl rfl (by simp [a7k])
@[go_sem] theorem e3c (x:Operand) (t:TypeId):a0z E draw call F H (.call { callee:=.builtin .clear,args:=#[x],argTypes:=#[t] }) = a0j (b09 E (a04 H) t (opv E F x)) fun z=>bif z.2.fits H.length then some (z.1,b01 H z.2,⟨a0u (opv E F x),z.2.keys H.length⟩) else none:=
 a52 rfl rfl (by simp [a7k])
def e2g (E:Env) (t:TypeId):Option Nat:=match E.und t with
 | some (.slice e)=>bif (E.und e).isSome then some (E.sz e) else none
 | _=>none
theorem c0r (t:TypeId) (b o l:Nat) (c:Option Nat) (x:AV) (hl:(l = 0) = False):b3t E h t (.slice b o l c) x = a0j (e2g E t) fun k=>a0j (a1q h k x) fun xs=>a0j (a7t (h b)) fun kr=>
 bif decide (kr.1 = k) && decide (o + l ≤ kr.2.length) && decide (0 < l) && (xs.take l).all (fun r=>r.all AV.storable) then
  some (.int .i64 ((xs.take l).length:Nat),.set b (.row kr.1 (kr.2.take o ++ xs.take l ++ kr.2.drop (o + (xs.take l).length)))) else none:=by
 have h0:Nat.beq l 0 = false:=by rw [c1m,b5e];exact decide_eq_false (by rw [hl];exact id)
 unfold b3t e2g
 cases E.und t with
 | none=>rfl
 | some d=>
  cases d<;>try rfl
  rename_i e
  simp only
  cases (E.und e).isSome with
  | false=>rfl
  | true=>
   simp only [cond_true,a0j]
   cases a1q h (E.sz e) x with
   | none=>rfl
   | some xs=>
    simp only [h0,cond_false]
    cases hb:h b with
    | none=>simp only [hb];rfl
    | some ob=>cases ob<;>simp only [hb,a7t,a0j,b5e,c4s,c4g]
attribute [go_sem] c0r
@[go_sem] theorem e01 (t:TypeId) (b o:Nat) (c:Option Nat) (x:AV):b3t E h t (.slice b o 0 c) x = a0j (e2g E t) fun k=>a0j (a1q h k x) fun _=>some (.int .i64 0,.none):=by
 unfold b3t e2g
 cases E.und t with
 | none=>rfl
 | some d=>
  cases d<;>try rfl
  rename_i e
  simp only
  cases (E.und e).isSome with
  | false=>rfl
  | true=>
   simp only [cond_true,a0j]
   cases a1q h (E.sz e) x<;>rfl
def e2k (E:Env) (t:TypeId):Option (Nat × List AV):=match E.und t with
 | some (.slice e)=>match E.zero e with|some z=>bif z.all AV.storable then some (E.sz e,z) else none|none=>none
 | _=>none
theorem b9a (t:TypeId) (b o l:Nat) (c:Option Nat) (hl:(l = 0) = False):b09 E h t (.slice b o l c) = a0j (e2k E t) fun kz=>a0j (a7t (h b)) fun kr=>
 bif decide (kr.1 = kz.1) && decide (o + l ≤ kr.2.length) then some (.tuple [],.set b (.row kr.1 (kr.2.take o ++ List.replicate l kz.2 ++ kr.2.drop (o + l)))) else none:=by
 have h0:Nat.beq l 0 = false:=by rw [c1m,b5e];exact decide_eq_false (by rw [hl];exact id)
 unfold b09 e2k
 cases E.und t with
 | none=>rfl
 | some d=>
  cases d<;>try rfl
  rename_i e
  simp only [h0,cond_false]
  cases E.zero e with
  | none=>rfl
  | some z=>
   simp only [a0j]
   cases hb:h b with
   | none=>cases z.all AV.storable<;>simp [hb,a7t]
   | some ob=>cases ob<;>cases hz:z.all AV.storable<;>simp [hb,a7t,b5e,c4s]
attribute [go_sem] b9a
end
section
variable {E:Env} {t:TypeId} {c:Bool} {x y:BitVec 64}
@[go_sem] theorem e6e:a4v E .mul t (u64 x) (u64 y) c = some (u64 (x * y)):=by
 simp only [u64,d3g,a6d,BitVec.toNat_mul]
 congr 2
@[go_sem] theorem e6q:a4v E .gtr t (u64 x) (u64 y) c = some (.bool (decide (y.toNat < x.toNat))):=by
 simp only [u64,d3h]
 congr 2
 simp only [Int.ofNat_lt]
end
section
variable {E:Env} {h:FHeap} {t:TypeId}
@[go_sem] theorem d9t {b o n:Nat} {c:Option Nat} {k:IntKind} {i:Int}:a3g E h t (.slice b o n c) (some (.int k i)) none none = a0j (slT E t) fun e=>a0j (a7t (h b)) fun kr=>bif isT E e && decide (kr.1 = E.sz e) && inB i n then some (.slice b (o + i.toNat) (n - i.toNat) (c.map (·- i.toNat))) else none:=by
 cases hs:slT E t with
 | none=>exact a8o hs (fun _ h=>by cases h)
 | some e=>
  simp only [a3g,a3a.1 hs,a0j,a8p,isT]
  cases hb:h b with
  | none=>cases (E.und e).isSome<;>rfl
  | some ob=>cases ob with
   | map=>cases (E.und e).isSome<;>rfl
   | siter=>cases (E.und e).isSome<;>rfl
   | row kk rows=>
    simp only [a7t,b5e]
    have e0:∀ m,a1e (none:Option AV) m n = some n:=fun _=>rfl
    cases (E.und e).isSome<;>cases decide (kk = E.sz e)<;>first|rfl|(simp only [cond_true,Bool.true_and,e0];cases inB i n<;>rfl)
end
theorem c8l {E:Env} {draw:Bool} {call:CallF} {g:FuncId} {fs cs ar args:List AV} {H:a06} (hx:E.ext g = false) (hf:(E.fn g).isSome = true) (he:fs ++ ar ++ cs = args) {v:AV} {H':a06} {σ:List Nat}
 (h:a2t (call g) args H = some (v,H',σ)) (hl:H'.length = H.length + 1):a0e E draw call (.func (.func g) fs cs) ar H = some (v,H',σ):=by
 simp only [a0e,hx,hf,he,cond_true,cond_false,h,c1m,hl,BEq.rfl,Bool.or_true,Bool.not_true,Bool.and_false]
theorem c8k {E:Env} {draw:Bool} {call:CallF} {g:FuncId} {fs cs ar args:List AV} {H:a06} {v v':AV} {b:Nat} {o o' o2:AObj} (hx:E.ext g = false) (hf:(E.fn g).isSome = true) (he:fs ++ ar ++ cs = args)
 (hb:a04 H b = some o) (ho:a0v (some o) = []) (hfl:FlatO (some o)) (hargs:a0d args = [b]) {args':List AV} (ha:args.map (ren (a50 [b])) = args') (hr:call g args' [some o] = some (v,[some o',some o2])) (hfl':FlatO (some o')) (hfl2:FlatO (some o2)) (hv:ren (a18 [b] H.length) v = v') :
 a0e E draw call (.func (.func g) fs cs) ar H = some (v',H.set b (some o') ++ [some o2],[b]):=by
 have hlt:=a0k hb
 have hc:=a0y (call g) args H (σ:=[b]) (by rw [hargs];exact b29 (by rw [hb];exact ho)) rfl (by simpa using hlt) ha (H0:=[some o]) (by simp only [a1n,List.map_cons,List.map_nil,hb];congr 1;exact hfl _) hr
 have hp:∀ (s:Nat) (R:a06),a11 [b] H.length [some o',some o2] s R = a11 [b] H.length [some o'] s R:=by
  intro s R
  induction R generalizing s with
  | nil=>rfl
  | cons x R ih=>
   simp only [a11,ih]
   cases hs:([b]:List Nat).idxOf? s with
   | none=>rfl
   | some j=>
    have:j = 0:=by
     have:=(List.getElem?_eq_some_iff.1 (a1d hs)).1
     simpa using this
    subst this;rfl
 have h2:=hfl2 (a18 [b] H.length)
 rw [hv,hp,a94 b _ _ hfl' 0 H (Nat.zero_le _)] at hc
 simp only [Nat.sub_zero,List.drop_succ_cons,List.drop_zero,List.map_nil,List.map_cons,List.length_cons,List.length_nil,h2] at hc
 exact c8l hx hf he hc (by simp)
end Go.Ax
/- AxFz: a loop that freezes at its end, as rewrite rules. -/
namespace Go.Ax
@[go_sem] theorem e6z (m:Nat) (H:a06) (v:AV):d9m m H v = (a42 m true (a86 (a04 H) m 12) v).getD .junk:=by
 unfold d9m;cases a42 m true (a86 (a04 H) m 12) v<;>rfl
@[go_sem] theorem e4b (m:Nat) (top:Bool) (d:AV → Option AV):a42 m top d .junk = some .junk:=by rfl
@[go_sem] theorem e1w (m:Nat) (H:a06) (s:Nat) (v:AV) (F:Frm):c0d m H ((s,v) :: F) = (s,d9m m H v) :: c0d m H F:=by rfl
@[go_sem] theorem e4e (m:Nat) (H:a06):c0d m H [] = []:=by rfl
@[go_sem] theorem e98 (H:a06):c0c 0 H = []:=by simp [c0c]
@[go_sem] theorem d9k {α:Type} (a b:α):(some a).getD b = a:=by rfl
@[go_sem] theorem e1u (s:Nat):a25 [] s = .junk:=by rfl
@[go_sem] theorem e0t:refs .junk = []:=by rfl
theorem e6s (m:Nat) (Q:b0a) (e:AExit) (F:Frm) (H:a06):fz m Q e F H = Q e (c0d m H F) (c0c m H):=by rfl
theorem c9m {E:Env} {M:List Fact} {m N:Nat} {g:FuncId} {cur:Nat} {keep:List Nat} {b:Code} {F:Frm} {H:a06} {Q:b0a} (hk:E.keep g cur = keep) (hz:c9i keep = true) {σ:Type} (Fs:σ → Frm) (Hs:σ → a06) (meas:σ → Nat) (Inv:σ → Prop) (s0:σ) (h0:gcD m keep F H = some (Fs s0,Hs s0)) (hi:Inv s0)
 (h:∀ s,Inv s → Wp (cx E M m N g cur) b (Fs s) (Hs s) (lp m keep Fs Hs meas Inv (meas s) (fz m Q))):Wp (cx E M m N g cur) (.loop b) F H Q:=by
 refine e06 hk hz (fun n F1 H1=>∃ s,F1 = Fs s ∧ H1 = Hs s ∧ n = meas s ∧ Inv s) (meas s0) ⟨_,_,h0,s0,rfl,rfl,rfl,hi⟩ ?_
 rintro n F1 H1 ⟨s,rfl,rfl,rfl,hs⟩
 refine b1x (h s hs) ?_
 intro e F' H' h2
 cases e with
 | normal=>obtain ⟨s',g1,g2,g3⟩:=h2;exact ⟨_,_,_,g1,g2,s',rfl,rfl,rfl,g3⟩
 | exit id=>exact h2
 | ret=>exact h2
end Go.Ax
/- AxTwo: slices of slices that grow: one block of rows, a block for each that is not empty. -/
namespace Go.Ax
theorem a55 {H L:a06} {c:Nat} (h:(c < H.length) = True):a04 (H ++ L) c = a04 H c:=by
 unfold a04;rw [List.getElem?_append_left (of_eq_true h)]
theorem a78 {H L:a06} (i:Nat):a04 (H ++ L) (H.length + i) = a04 L i:=by
 unfold a04;rw [List.getElem?_append_right (by omega)];congr 1;rw [Nat.add_sub_cancel_left]
theorem a4q {H L:a06}:a04 (H ++ L) H.length = a04 L 0:=a78 0
theorem b30 {H:a06} {a c:Nat} {o:Option AObj}:a04 (H.set a o) c = if a = c ∧ a < H.length then o else a04 H c:=by
 unfold a04
 rw [List.getElem?_set]
 by_cases h:a = c
 ·subst h
  by_cases hl:a < H.length
  ·simp [hl]
  ·simp [hl]
 ·simp [h]
theorem a33 {H:a06} {a c:Nat} {o:Option AObj} (h:a ≠ c):a04 (H.set a o) c = a04 H c:=by rw [b30,if_neg (fun e=>h e.1)]
theorem c3s {H:a06} {a c:Nat} {o:Option AObj} (h:(a = c) = False):a04 (H.set a o) c = a04 H c:=a33 (fun e=>h ▸ e)
theorem b15 {H:a06} {a:Nat} {o:Option AObj} (h:a < H.length):a04 (H.set a o) a = o:=by rw [b30,if_pos ⟨rfl,h⟩]
def slV (b:Nat) (c:Option Nat):List (List AV) → AV|[]=>.nilslice|_ :: rs=>.slice b 0 (rs.length + 1) c
theorem d09 (b:Nat) (f:List (List AV)):slV b none f = grV b f:=by cases f<;>rfl
theorem b7h {H L:a06} {o:Option AObj} (i:Nat):(H ++ L).set (H.length + i) o = H ++ L.set i o:=by
 rw [List.set_append_right _ _ (by omega),Nat.add_sub_cancel_left]
theorem b22 {H L:a06} {o:Option AObj}:(H ++ L).set H.length o = H ++ L.set 0 o:=b7h 0
theorem c5f {H L:a06} {o:Option AObj} {a:Nat} (h:(a < H.length) = True):(H ++ L).set a o = H.set a o ++ L:=List.set_append_left _ _ (of_eq_true h)
theorem a7x (n:Nat):(n < n + 1) = True:=by simp
theorem b69 {a n k:Nat} (h:(a < n) = True):(a < n + k) = True:=by have:=of_eq_true h;simp;omega
def a5l (ids:Nat → Nat) (cp:Nat → Option Nat) (fo:List (List (List AV))):List (List AV):=fo.mapIdx fun j f=>[slV (ids j) (cp j) f]
structure Two (H:a06) (b k:Nat) (ids:Nat → Nat) (cp:Nat → Option Nat) (fo:List (List (List AV))):Prop where
 top:a04 H b = some (.row 1 (a5l ids cp fo))
 sub:∀ (j:Nat) (f:List (List AV)),fo[j]? = some f → f ≠ [] → a04 H (ids j) = some (.row k f) ∧ ids j ≠ b
 inj:∀ (i j:Nat) (f g:List (List AV)),fo[i]? = some f → fo[j]? = some g → f ≠ [] → g ≠ [] → ids i = ids j → i = j
 flat:∀ f ∈ fo,FlatR f
theorem b27 {ids:Nat → Nat} {cp:Nat → Option Nat} {fo:List (List (List AV))} {j:Nat} {f:List (List AV)} (h:fo[j]? = some f):(a5l ids cp fo)[j]? = some [slV (ids j) (cp j) f]:=by
 unfold a5l;rw [List.getElem?_mapIdx,h];rfl
theorem a6l (ids:Nat → Nat) (cp:Nat → Option Nat) (fo:List (List (List AV))):(a5l ids cp fo).length = fo.length:=by unfold a5l;simp
theorem b5n (b:Nat) (c:Option Nat) {f:List (List AV)}:refs (slV b c f) = if f = [] then [] else [b]:=by cases f<;>rfl
theorem b4f {ids:Nat → Nat} {cp:Nat → Option Nat} {fo:List (List (List AV))} {c:Nat}:c ∈ (a5l ids cp fo).flatMap a0d ↔ ∃ j f,fo[j]? = some f ∧ f ≠ [] ∧ c = ids j:=by
 unfold a5l
 simp only [List.mem_flatMap]
 constructor
 ·rintro ⟨r,hr,hc⟩
  obtain ⟨j,hj⟩:=List.mem_iff_getElem?.1 hr
  rw [List.getElem?_mapIdx] at hj
  cases hf:fo[j]? with
  | none=>rw [hf] at hj;cases hj
  | some f=>
   rw [hf] at hj
   cases hj
   simp only [a0d,b5n,List.append_nil] at hc
   split at hc
   ·simp at hc
   ·rename_i hne
    exact ⟨j,f,hf,hne,by simpa using hc⟩
 ·rintro ⟨j,f,hf,hne,rfl⟩
  refine ⟨[slV (ids j) (cp j) f],List.mem_iff_getElem?.2 ⟨j,by rw [List.getElem?_mapIdx,hf];rfl⟩,?_⟩
  simp [a0d,b5n,hne]
theorem d5e {π:Nat → Option Nat} {b c:Nat} {q:Option Nat} {f:List (List AV)} (h:f ≠ [] → π b = some c):ren π (slV b q f) = slV c q f:=by
 cases f with
 | nil=>rfl
 | cons a r=>simp only [slV,ren,h (by simp)]
section
variable {m:Nat} {F:Frm} {H H1:a06} {R:Nat → Prop} {π:Nat → Option Nat} {b k:Nat} {ids:Nat → Nat} {cp:Nat → Option Nat} {fo:List (List (List AV))}
theorem Two.ren (hg:Gc m F H R π H1) (h:Two H b k ids cp fo) (hb:R b):∃ b' ids',π b = some b' ∧ Two H1 b' k ids' cp fo:=by
 obtain ⟨b',hb'⟩:=hg.here b hb
 have hsub:∀ (j:Nat) (f:List (List AV)),fo[j]? = some f → f ≠ [] → π (ids j) = some ((π (ids j)).getD 0):=by
  intro j f hf hne
  have:R (ids j):=hg.closed b hb _ (by rw [h.top];exact b4f.2 ⟨j,f,hf,hne,rfl⟩)
  obtain ⟨c,hc⟩:=hg.here _ this
  rw [hc];rfl
 refine ⟨b',fun j=>(π (ids j)).getD 0,hb',?_,?_,?_,h.flat⟩
 ·rw [hg.heap b b' hb',h.top]
  simp only [Option.map_some,a0m]
  congr 2
  unfold a5l
  apply List.ext_getElem?
  intro j
  simp only [List.getElem?_map,List.getElem?_mapIdx]
  cases hf:fo[j]? with
  | none=>rfl
  | some f=>simp only [Option.map_some,List.map_cons,List.map_nil,d5e (hsub j f hf)]
 ·intro j f hf hne
  have e:=hsub j f hf hne
  obtain ⟨h1,h2⟩:=h.sub j f hf hne
  refine ⟨?_,?_⟩
  ·rw [hg.heap _ _ e,h1]
   simp only [Option.map_some,a0m,a01 π (h.flat f (List.mem_of_getElem? hf))]
  ·intro he
   rw [he] at e
   exact h2 (hg.inj _ _ _ e hb')
 ·intro i j f g hf hg' hne hne' e
  have e1:=hsub i f hf hne
  have e2:=hsub j g hg' hne'
  rw [e] at e1
  exact h.inj i j f g hf hg' hne hne' (hg.inj _ _ _ e1 e2)
theorem Two.app (h:Two H b k ids cp fo) {j n:Nat} {f:List (List AV)} {x:List AV} (hf:fo[j]? = some f) (hc:cp j = none) (hx:a0d x = []) (hn:H.length ≤ n)
 (h1:a04 H1 b = some (.row 1 ((a5l ids cp fo).set j [.slice n 0 (f.length + 1) none]))) (h2:a04 H1 n = some (.row k (f ++ [x])))
 (h3:∀ (i:Nat) (g:List (List AV)),i ≠ j → fo[i]? = some g → g ≠ [] → a04 H1 (ids i) = a04 H (ids i)) :
 Two H1 b k (fun i=>if i = j then n else ids i) cp (fo.set j (f ++ [x])):=by
 have hjl:j < fo.length:=(List.getElem?_eq_some_iff.1 hf).1
 have hlt:∀ (i:Nat) (g:List (List AV)),fo[i]? = some g → g ≠ [] → ids i < H.length:=fun i g hg hne=>a0k (h.sub i g hg hne).1
 have hbl:b < H.length:=a0k h.top
 refine ⟨?_,?_,?_,?_⟩
 ·rw [h1]
  congr 2
  apply List.ext_getElem?
  intro i
  unfold a5l
  rw [List.getElem?_set,List.length_mapIdx]
  by_cases hij:j = i
  ·subst hij
   simp only [if_true,hjl]
   rw [List.getElem?_mapIdx,List.getElem?_set]
   simp only [if_true,hjl,Option.map_some,hc,d09,b1s]
  ·simp only [if_neg hij]
   rw [List.getElem?_mapIdx,List.getElem?_mapIdx,List.getElem?_set,if_neg hij]
   simp only [if_neg (Ne.symm hij)]
 ·intro i g hg hne
  rw [List.getElem?_set] at hg
  by_cases hij:j = i
  ·subst hij
   simp only [if_true,hjl,Option.some.injEq] at hg
   subst hg
   simp only [if_true]
   exact ⟨h2,by omega⟩
  ·rw [if_neg hij] at hg
   simp only [if_neg (Ne.symm hij)]
   rw [h3 i g (Ne.symm hij) hg hne]
   exact h.sub i g hg hne
 ·intro i i' g g' hg hg' hne hne' e
  rw [List.getElem?_set] at hg hg'
  by_cases hij:j = i<;>by_cases hij':j = i'
  ·omega
  ·subst hij
   simp only [if_neg hij'] at hg'
   simp only [if_true,if_neg (Ne.symm hij')] at e
   have:=hlt i' g' hg' hne'
   omega
  ·subst hij'
   simp only [if_neg hij] at hg
   simp only [if_true,if_neg (Ne.symm hij)] at e
   have:=hlt i g hg hne
   omega
  ·simp only [if_neg hij] at hg
   simp only [if_neg hij'] at hg'
   simp only [if_neg (Ne.symm hij),if_neg (Ne.symm hij')] at e
   exact h.inj i i' g g' hg hg' hne hne' e
 ·intro g hg
  rcases List.mem_or_eq_of_mem_set hg with hg|rfl
  ·exact h.flat g hg
  ·exact (h.flat f (List.mem_of_getElem? hf)).append (FlatR.cons hx FlatR.nil)
theorem a9f {H:a06}:∀ (l:List Nat),(∀ c ∈ l,a0v (a04 H c) = []) → (l.map fun c=>(a0v (a04 H c)).length).sum = 0
 | [],_=>rfl
 | a :: l,h=>by simp only [List.map_cons,List.sum_cons,h a (by simp),List.length_nil,a9f l (fun c hc=>h c (by simp [hc]))]
theorem Two.gc {keep:List Nat} (h:Two H b k ids cp fo) (hF:a0d ((a1j keep F).map (·.2)) = [b] ∨ a0d ((a1j keep F).map (·.2)) = [b,b]) (hn:fo.length < 900000) :
 ∃ π b' ids' H1,gcD 0 keep F H = some (b9d π (a1j keep F),H1) ∧ π b = some b' ∧ Two H1 b' k ids' cp fo:=by
 -- the blocks that rows lead to
 obtain ⟨S,hS⟩:∃ S,S = b :: ((List.range fo.length).filter fun j=>(fo[j]?).any fun f=>!f.isEmpty).map ids:=⟨_,rfl⟩
 have hleaf:∀ c ∈ ((List.range fo.length).filter fun j=>(fo[j]?).any fun f=>!f.isEmpty).map ids,a0v (a04 H c) = []:=by
  intro c hc
  obtain ⟨j,hj,rfl⟩:=List.mem_map.1 hc
  rw [List.mem_filter] at hj
  have hjl:j < fo.length:=by simpa using hj.1
  obtain ⟨f,hf⟩:∃ f,fo[j]? = some f:=⟨_,z9e hjl⟩
  have hne:=hj.2
  rw [hf] at hne
  rw [(h.sub j f hf (fun e=>by rw [e] at hne;simp at hne)).1]
  exact a0t (h.flat f (List.mem_of_getElem? hf))
 have hsum:((((List.range fo.length).filter fun j=>(fo[j]?).any fun f=>!f.isEmpty).map ids).map fun c=>(a0v (a04 H c)).length).sum = 0:=by
  exact a9f _ hleaf
 have hrow:(a0v (a04 H b)).length ≤ fo.length:=by
  rw [h.top]
  show ((a5l ids cp fo).flatMap a0d).length ≤ _
  have:∀ (l:List (List AV)),(∀ r ∈ l,(a0d r).length ≤ 1) → (l.flatMap a0d).length ≤ l.length:=by
   intro l
   induction l with
   | nil=>intro _;simp
   | cons r l ih=>
    intro hl
    have h1:=hl r (by simp)
    have h2:=ih (fun r hr=>hl r (by simp [hr]))
    simp only [List.flatMap_cons,List.length_append,List.length_cons];omega
  have h2:=this (a5l ids cp fo) (by
   intro r hr
   obtain ⟨j,hj⟩:=List.mem_iff_getElem?.1 hr
   unfold a5l at hj
   rw [List.getElem?_mapIdx] at hj
   cases hf:fo[j]? with
   | none=>rw [hf] at hj;cases hj
   | some f=>rw [hf] at hj;cases hj;simp only [a0d,b5n];split<;>simp)
  rw [a6l] at h2;exact h2
 obtain ⟨R,π,H1,g1,g2,_⟩:=c7h (m:=0) (keep:=keep) (F:=F) (H:=H) (Nat.zero_le _) S (by intro c hc;rcases hF with hF|hF<;>rw [hF] at hc<;>simp at hc<;>subst hc<;>simp [hS]) (fun c hc=>absurd hc (Nat.not_lt_zero c)) (by
  intro c hc d hd
  simp only [hS,List.mem_cons] at hc
  rcases hc with rfl|hc
  ·rw [h.top] at hd
   obtain ⟨j,f,hf,hne,rfl⟩:=b4f.1 hd
   simp only [hS,List.mem_cons]
   refine .inr (List.mem_map.2 ⟨j,List.mem_filter.2 ⟨by simpa using (List.getElem?_eq_some_iff.1 hf).1,?_⟩,rfl⟩)
   rw [hf];cases f with|nil=>exact absurd rfl hne|cons=>rfl
  ·rw [hleaf c hc] at hd;simp at hd) (by
  have hl:(a0d ((a1j keep F).map (·.2))).length ≤ 2:=by rcases hF with hF|hF<;>rw [hF]<;>simp
  simp only [hS,List.map_cons,List.sum_cons,hsum,List.take_zero,List.flatMap_nil,List.length_nil]
  omega)
 obtain ⟨b',ids',e1,e2⟩:=h.ren g2 (g2.refs b (by rcases hF with hF|hF<;>rw [hF]<;>simp))
 exact ⟨π,b',ids',H1,g1,e1,e2⟩
theorem Two.clip (h:Two H b k ids cp fo) {j c:Nat} {f:List (List AV)} (hf:fo[j]? = some f) (h1:a04 H1 b = some (.row 1 ((a5l ids cp fo).set j [slV (ids j) (some c) f])))
 (h3:∀ c,c ≠ b → a04 H1 c = a04 H c):Two H1 b k ids (fun i=>if i = j then some c else cp i) fo:=by
 have hjl:j < fo.length:=(List.getElem?_eq_some_iff.1 hf).1
 refine ⟨?_,fun i g hg hne=>?_,h.inj,h.flat⟩
 ·rw [h1]
  congr 2
  apply List.ext_getElem?
  intro i
  unfold a5l
  rw [List.getElem?_set,List.length_mapIdx]
  by_cases hij:j = i
  ·subst hij
   simp only [if_true,hjl]
   rw [List.getElem?_mapIdx,hf]
   simp
  ·simp only [if_neg hij]
   rw [List.getElem?_mapIdx,List.getElem?_mapIdx]
   simp only [if_neg (Ne.symm hij)]
 ·obtain ⟨g1,g2⟩:=h.sub i g hg hne
  rw [h3 _ g2];exact ⟨g1,g2⟩
def slF (c:Option Nat):List (List AV) → AV|[]=>.nilslice|r :: rs=>.islice (r :: rs) c
theorem Two.frz (h:Two H b k ids cp fo) (c:Option Nat):a42 0 true (a86 (a04 H) 0 12) (.slice b 0 fo.length c) = some (.islice (fo.mapIdx fun j f=>[slF (cp j) f]) c):=by
 have key:∀ (rows:List (List AV)) (out:List (List AV)),rows.length = out.length → (∀ (j:Nat) r o,rows[j]? = some r → out[j]? = some o → a64 0 false (a86 (a04 H) 0 11) r = some o) → a7m 0 (a86 (a04 H) 0 11) rows = some out:=by
  intro rows
  induction rows with
  | nil=>intro out hl _;cases out with|nil=>rfl|cons=>simp at hl
  | cons r rows ih=>
   intro out hl hh
   cases out with
   | nil=>simp at hl
   | cons o out=>
    rw [a9w,hh 0 r o rfl rfl]
    simp only [a0j]
    rw [ih out (by simpa using hl) (fun j r o hr ho=>hh (j + 1) r o (by simpa using hr) (by simpa using ho))]
 have e12:∀ x,a86 (a04 H) 0 12 x = a86 (a04 H) 0 (11 + 1) x:=fun _=>rfl
 rw [a6s,decide_eq_false (Nat.not_lt_zero b),cond_false,a5c (eq_true (by omega:0 < 12)),h.top]
 simp only [a7t,a0j,a6l,List.drop_zero,Nat.zero_add]
 rw [decide_eq_true (Nat.le_refl _),cond_true,← a6l ids cp fo,List.take_length]
 rw [key (a5l ids cp fo) (fo.mapIdx fun j f=>[slF (cp j) f]) (by rw [a6l];simp)]
 intro j r o hr ho
 rw [List.getElem?_mapIdx] at ho
 cases hf:fo[j]? with
 | none=>rw [hf] at ho;cases ho
 | some f=>
  rw [hf] at ho
  rw [b27 hf] at hr
  cases ho;cases hr
  rw [a85,b6j]
  cases f with
  | nil=>rfl
  | cons x xs=>
   obtain ⟨g1,_⟩:=h.sub j _ hf (by simp)
   have hfl:=h.flat _ (List.mem_of_getElem? hf)
   simp only [slV,slF]
   rw [a6s,decide_eq_false (Nat.not_lt_zero _),cond_false,a5c (eq_true (by omega:0 < 11)),g1]
   simp only [a7t,a0j,List.drop_zero,Nat.zero_add]
   rw [decide_eq_true (by simp),cond_true]
   have:List.take (xs.length + 1) (x :: xs) = x :: xs:=List.take_length (l:=x :: xs)
   rw [this,a0s _ _ hfl]
end
theorem Two.more {H L:a06} {b k:Nat} {ids:Nat → Nat} {cp:Nat → Option Nat} {fo:List (List (List AV))} (h:Two H b k ids cp fo):Two (H ++ L) b k ids cp fo:=by
 have hl:∀ {c:Nat} {o:AObj},a04 H c = some o → a04 (H ++ L) c = some o:=fun hc=>by rw [a55 (eq_true (a0k hc))];exact hc
 exact ⟨hl h.top,fun j f hf hne=>⟨hl (h.sub j f hf hne).1,(h.sub j f hf hne).2⟩,h.inj,h.flat⟩
theorem b31 {H L:a06} {a:Nat} {o:Option AObj} (i:Nat):a04 (H.set a o ++ L) (H.length + i) = a04 L i:=by
 have:=a78 (H:=H.set a o) (L:=L) i
 rwa [List.length_set] at this
theorem a4p {H L:a06} {a c:Nat} {o:Option AObj} (hc:c < H.length):a04 (H.set a o ++ L) c = if a = c then o else a04 H c:=by
 rw [a55 (eq_true (by rw [List.length_set];exact hc)),b30]
 by_cases h:a = c
 ·subst h;simp [hc]
 ·simp [h]
section
variable {H:a06} {b k:Nat} {ids:Nat → Nat} {cp:Nat → Option Nat} {fo:List (List (List AV))} {j:Nat} {x:List AV} {o:Option AObj}
theorem Two.app1 (h:Two H b k ids cp fo) (hf:fo[j]? = some []) (hc:cp j = none) (hx:a0d x = []) :
 Two (H.set b (some (.row 1 ((a5l ids cp fo).set j [.slice (H.length + 1) 0 1 none]))) ++ [o,some (.row k [x])]) b k (fun i=>if i = j then H.length + 1 else ids i) cp (fo.set j [x]):=by
 have hbl:=a0k h.top
 refine h.app hf hc hx (by omega) ?_ ?_ ?_
 ·rw [a4p hbl,if_pos rfl];rfl
 ·rw [b31];rfl
 ·intro i g hij hg hne
  obtain ⟨g1,g2⟩:=h.sub i g hg hne
  rw [a4p (a0k g1),if_neg (Ne.symm g2)]
theorem Two.app2 {a:List AV} {r:List (List AV)} (h:Two H b k ids cp fo) (hf:fo[j]? = some (a :: r)) (hc:cp j = none) (hx:a0d x = []) :
 Two ((H.set (ids j) none).set b (some (.row 1 ((a5l ids cp fo).set j [.slice (H.length + 1) 0 (r.length + 1 + 1) none]))) ++ [o,some (.row k (a :: (r ++ [x])))]) b k (fun i=>if i = j then H.length + 1 else ids i) cp (fo.set j (a :: r ++ [x])):=by
 have hbl:=a0k h.top
 have hll:(H.set (ids j) none).length = H.length:=List.length_set
 refine h.app hf hc hx (by omega) ?_ ?_ ?_
 ·rw [a4p (by rw [hll];exact hbl),if_pos rfl];rfl
 ·have:=b31 (H:=H.set (ids j) none) (L:=[o,some (.row k (a :: (r ++ [x])))]) (a:=b) (o:=some (.row 1 ((a5l ids cp fo).set j [.slice (H.length + 1) 0 (r.length + 1 + 1) none]))) 1
  rw [hll] at this
  rw [this];rfl
 ·intro i g hij hg hne
  obtain ⟨g1,g2⟩:=h.sub i g hg hne
  rw [a4p (by rw [hll];exact a0k g1),if_neg (Ne.symm g2),a33]
  intro e
  exact hij (h.inj i j g (a :: r) hg hf hne (by simp) e.symm)
end
theorem a5w {keep:List Nat} {F:Frm} {H:a06} {b k:Nat} {ids:Nat → Nat} {cp:Nat → Option Nat} {fo:List (List (List AV))} {P:Frm → a06 → Prop} (h:Two H b k ids cp fo) (hF:a0d ((a1j keep F).map (·.2)) = [b] ∨ a0d ((a1j keep F).map (·.2)) = [b,b]) (hn:fo.length < 900000)
 (hP:∀ π b' ids' H1,π b = some b' → Two H1 b' k ids' cp fo → P (b9d π (a1j keep F)) H1):∃ F1 H1,gcD 0 keep F H = some (F1,H1) ∧ P F1 H1:=by
 obtain ⟨π,b',ids',H1,g1,g2,g3⟩:=h.gc hF hn
 exact ⟨_,H1,g1,hP π b' ids' H1 g2 g3⟩
def fqE (E:Env) (g:FuncId) (m:Nat) (results:List ResultVar) (P:AV × a06 → Prop):b0a:=
 fun e F H=>match e with|.exit _=>False|_=>∃ vs r,a1b E F H results = some vs ∧ a2a (E.thaw g) m (a45 vs) H = some r ∧ P r
theorem a4s {E:Env} {g:FuncId} {m:Nat} {results:List ResultVar} {P:AV × a06 → Prop} {F:Frm} {H:a06} {vs:List AV} {r:AV × a06} (h1:a1b E F H results = some vs) (h2:a2a (E.thaw g) m (a45 vs) H = some r) (h3:P r):fqE E g m results P .ret F H:=⟨vs,r,h1,h2,h3⟩
theorem a5v {E:Env} {g:FuncId} {m:Nat} {results:List ResultVar} {P:AV × a06 → Prop} {F:Frm} {H:a06} {vs:List AV} {r:AV × a06} (h1:a1b E F H results = some vs) (h2:a2a (E.thaw g) m (a45 vs) H = some r) (h3:P r):fqE E g m results P .normal F H:=⟨vs,r,h1,h2,h3⟩
theorem d5i {E:Env} {M:List Fact} {g:FuncId} {args:List AV} {H:a06} {code:Code} {N:Nat} {results:List ResultVar} {P:AV × a06 → Prop}
 (hfn:E.fn g = some ⟨code,N,results⟩) (hno:∀ y ∈ M,y.g ≠ g) (hN:Nat.ble args.length N = true) {m:Nat} (hm:H.length = m) (h:Wp (cx E M m N g 0) code (a3n 0 args) H (fqE E g m results P)):∃ r,P r ∧ sem E M g args H = some r:=by
 subst hm
 obtain ⟨e,F',H',h1,h2⟩:=c4x _ h
 cases e with
 | normal=>obtain ⟨vs,⟨v,H2⟩,h3,h4,h5⟩:=h2;exact ⟨_,h5,c14 hfn hno hN h1 (fun _ h=>by cases h) h3 h4⟩
 | ret=>obtain ⟨vs,⟨v,H2⟩,h3,h4,h5⟩:=h2;exact ⟨_,h5,c14 hfn hno hN h1 (fun _ h=>by cases h) h3 h4⟩
 | exit id=>exact h2.elim
theorem c3w {E:Env} {g:FuncId} {m:Nat} {results:List ResultVar} {P:AV × a06 → Prop} {e:AExit} {F:Frm} {H:a06} {r:AV × a06} (h:(bif e.fin then a0j (a1b E F H results) fun vs=>a2a (E.thaw g) m (a45 vs) H else none) = some r) (h3:P r):fqE E g m results P e F H:=by
 have h:=fqb h
 cases e with
 | exit i=>exact h
 | _=>obtain ⟨vs,h1,h2⟩:=h;exact ⟨vs,r,h1,h2,h3⟩
theorem svE {E:Env} {M:List Fact} {g:FuncId} {args:List AV} {H:a06} {P:AV × a06 → Prop} (f:Func) (h:Wp (cx E M H.length f.ntmps g 0) (f.body.getD .skip) (a3n 0 args) H (fqE E g H.length f.results.toList P)) (hfn:E.fn g = some ⟨f.body.getD .skip,f.ntmps,f.results.toList⟩:=by kernel_rfl)
 (hno:(M.all fun y=>!Nat.beq y.g g) = true:=by rfl) (hN:Nat.ble args.length f.ntmps = true:=by rfl):∃ r,P r ∧ sem E M g args H = some r:=d5i hfn (fun y hy e=>by
 have:=List.all_eq_true.1 hno y hy
 rw [e] at this
 simp at this) hN rfl h
end Go.Ax
/- AxCall3: calls over two blocks, which they may write. -/
namespace Go.Ax
theorem a61 {σ:List Nat} {n:Nat} {H1:a06}:∀ (s:Nat) (H:a06) (i:Nat),(a11 σ n H1 s H)[i]? = (H[i]?).map fun o=>match σ.idxOf? (s + i) with|some j=>(a04 H1 j).map (a0m (a18 σ n))|none=>o
 | s,[],i=>by simp [a11]
 | s,o :: H,0=>by simp [a11];rfl
 | s,o :: H,i + 1=>by
  simp only [a11,List.getElem?_cons_succ,a61 (s + 1) H i]
  rw [show s + 1 + i = s + (i + 1) by omega]
theorem c62 {H:a06} {a b:Nat} (hab:a ≠ b) (ha:a0v (a04 H a) = []) (hb:a0v (a04 H b) = []):a2j H 1000000 [a,b] [] = [a,b]:=by
 have e:a2j H (999996 + 4) [a,b] [] = [a,b]:=by
  unfold a2j
  simp only [a1f,cond_false,ha,List.nil_append]
  unfold a2j
  have h1:a1f [a] b = false:=by
   cases hc:a1f [a] b with
   | false=>rfl
   | true=>exact absurd (by simpa using a2m.1 hc) (Ne.symm hab)
  simp only [h1,cond_false,hb,List.nil_append]
  unfold a2j
  rfl
 exact e
theorem b3i {E:Env} {draw:Bool} {call:CallF} {g:FuncId} {fs cs ar args:List AV} {H:a06} {v v':AV} {a b:Nat} {o1 o2 p1 p2:AObj} (hx:E.ext g = false) (hf:(E.fn g).isSome = true) (he:fs ++ ar ++ cs = args)
 (hab:a ≠ b) (ha:a04 H a = some o1) (hb:a04 H b = some o2) (hr1:a0v (some o1) = []) (hr2:a0v (some o2) = []) (hf1:FlatO (some o1)) (hf2:FlatO (some o2)) (hargs:a0d args = [a,b])
 {args':List AV} (hra:args.map (ren (a50 [a,b])) = args') (hr:call g args' [some o1,some o2] = some (v,[some p1,some p2])) (hp1:FlatO (some p1)) (hp2:FlatO (some p2)) (hv:ren (a18 [a,b] H.length) v = v') :
 a0e E draw call (.func (.func g) fs cs) ar H = some (v',(H.set a (some p1)).set b (some p2),[a,b]):=by
 have l1:=a0k ha
 have l2:=a0k hb
 have hn:a51 [a,b] = true:=a9n (by simp [hab])
 have hc:=a0y (call g) args H (σ:=[a,b]) (by rw [hargs];exact c62 hab (by rw [ha];exact hr1) (by rw [hb];exact hr2)) hn (by simp [l1,l2]) hra (H0:=[some o1,some o2])
  (by simp only [a1n,List.map_cons,List.map_nil,ha,hb];rw [hf1,hf2]) hr
 have hpb:a11 [a,b] H.length [some p1,some p2] 0 H = (H.set a (some p1)).set b (some p2):=by
  apply List.ext_getElem?
  intro i
  rw [a61,List.getElem?_set,List.getElem?_set,List.length_set,Nat.zero_add]
  by_cases hia:a = i
  ·subst hia
   have e:([a,b]:List Nat).idxOf? a = some 0:=by simp [List.idxOf?_cons]
   rw [z9e l1]
   simp only [Option.map_some,e,if_neg (Ne.symm hab),if_true,l1]
   congr 1
   exact hp1 _
  ·by_cases hib:b = i
   ·subst hib
    have e:([a,b]:List Nat).idxOf? b = some 1:=by simp [List.idxOf?_cons,hab]
    rw [z9e l2]
    simp only [Option.map_some,e,if_true,l2]
    congr 1
    exact hp2 _
   ·have e:([a,b]:List Nat).idxOf? i = none:=by simp [List.idxOf?_cons,hia,hib]
    rw [if_neg hib,if_neg hia]
    cases H[i]? with
    | none=>rfl
    | some o=>simp only [Option.map_some,e]
 rw [hv,hpb] at hc
 simp only [List.drop_succ_cons,List.drop_zero,List.map_nil,List.append_nil,List.length_cons,List.length_nil] at hc
 exact a23 hx hf he hc (by simp)
theorem b9u (a b o l:Nat) (c:Option Nat):ren (a50 [a,b]) (.slice a o l c) = .slice 0 o l c:=by simp [ren,a50,List.idxOf?_cons]
theorem c5u {a b:Nat} (h:a ≠ b) (i o:Nat):ren (a50 [a,b]) (.ptr b i o) = .ptr 1 i o:=by simp [ren,a50,List.idxOf?_cons,h]
end Go.Ax
/- AxTab: a table of rows of words in blocks, wherever they lie; heads of loops and calls over it. -/
namespace Go.Ax
def b3v (w:BitVec 64):List AV:=[u64 w]
structure Mv (H:a06) (R:Nat → Prop) (π:Nat → Option Nat) (H1:a06):Prop where
 inj:∀ a b c,π a = some c → π b = some c → a = b
 closed:∀ b,R b → ∀ c ∈ a0v (a04 H b),R c
 here:∀ b,R b → ∃ c,π b = some c
 heap:∀ b c,R b → π b = some c → a04 H1 c = (a04 H b).map (a0m π)
theorem Gc.mv {m:Nat} {F:Frm} {H H1:a06} {R:Nat → Prop} {π:Nat → Option Nat} (g:Gc m F H R π H1):Mv H R π H1:=⟨g.inj,g.closed,g.here,fun b c _ h=>g.heap b c h⟩
structure Tbl (H:a06) (a b q:Nat) (ids:Nat → Nat) (w:Nat) (fo:List (List (BitVec 64))) (from':Int):Prop where
 out:a04 H a = some (.row 1 [[.slice b 0 fo.length (some fo.length)]])
 top:a04 H b = some (.row 1 ((List.range fo.length).map fun j=>[.slice (ids j) 0 w (some w)]))
 sub:∀ (j:Nat) (f:List (BitVec 64)),fo[j]? = some f → a04 H (ids j) = some (.row 1 (f.map b3v)) ∧ ids j ≠ a ∧ ids j ≠ b ∧ ids j ≠ q ∧ f.length = w
 frm:a04 H q = some (.row 1 [[.int .i64 from']])
 ab:a ≠ b
 aq:a ≠ q
 bq:b ≠ q
 inj:∀ i j,i < fo.length → j < fo.length → ids i = ids j → i = j
theorem b6m (l:List (BitVec 64)):FlatR (l.map b3v):=FlatR.map fun _=>rfl
section
variable {H H1:a06} {R:Nat → Prop} {π:Nat → Option Nat} {a b q:Nat} {ids:Nat → Nat} {w:Nat} {fo:List (List (BitVec 64))} {fr:Int}
theorem Tbl.top_refs (h:Tbl H a b q ids w fo fr) {c:Nat}:c ∈ a0v (a04 H b) ↔ ∃ j,j < fo.length ∧ c = ids j:=by
 rw [h.top]
 show c ∈ ((List.range fo.length).map fun j=>[AV.slice (ids j) 0 w (some w)]).flatMap a0d ↔ _
 simp only [List.mem_flatMap,List.mem_map,List.mem_range]
 constructor
 ·rintro ⟨r,⟨j,hj,rfl⟩,hc⟩
  exact ⟨j,hj,by simpa [a0d,refs] using hc⟩
 ·rintro ⟨j,hj,rfl⟩
  exact ⟨_,⟨j,hj,rfl⟩,by simp [a0d,refs]⟩
theorem Tbl.mv (h:Tbl H a b q ids w fo fr) (hm:Mv H R π H1) (ha:R a) (hq:R q):∃ a' b' q' ids',π a = some a' ∧ π b = some b' ∧ π q = some q' ∧ (∀ j,j < fo.length → π (ids j) = some (ids' j)) ∧ Tbl H1 a' b' q' ids' w fo fr:=by
 have hb:R b:=hm.closed a ha b (by rw [h.out];simp [a0v,a0d,refs])
 have hid:∀ j,j < fo.length → R (ids j):=fun j hj=>hm.closed b hb _ (h.top_refs.2 ⟨j,hj,rfl⟩)
 obtain ⟨a',ea⟩:=hm.here a ha
 obtain ⟨b',eb⟩:=hm.here b hb
 obtain ⟨q',eq⟩:=hm.here q hq
 have ei:∀ j,j < fo.length → π (ids j) = some ((π (ids j)).getD 0):=fun j hj=>by obtain ⟨c,hc⟩:=hm.here _ (hid j hj);rw [hc];rfl
 refine ⟨a',b',q',fun j=>(π (ids j)).getD 0,ea,eb,eq,ei,?_,?_,?_,?_,?_,?_,?_,?_⟩
 ·rw [hm.heap a a' ha ea,h.out]
  simp only [Option.map_some,a0m,List.map_cons,List.map_nil,Ax.ren,eb]
 ·rw [hm.heap b b' hb eb,h.top]
  simp only [Option.map_some,a0m,List.map_map]
  congr 2
  refine List.map_congr_left fun j hj=>?_
  have:=ei j (by simpa using hj)
  simp only [Function.comp,List.map_cons,List.map_nil,Ax.ren]
  rw [this];rfl
 ·intro j f hf
  obtain ⟨g1,g2,g3,g4,g5⟩:=h.sub j f hf
  have hj:j < fo.length:=(List.getElem?_eq_some_iff.1 hf).1
  have e:=ei j hj
  refine ⟨?_,?_,?_,?_,g5⟩
  ·rw [hm.heap _ _ (hid j hj) e,g1]
   simp only [Option.map_some,a0m,a01 π (b6m f)]
  ·intro he;rw [he] at e;exact g2 (hm.inj _ _ _ e ea)
  ·intro he;rw [he] at e;exact g3 (hm.inj _ _ _ e eb)
  ·intro he;rw [he] at e;exact g4 (hm.inj _ _ _ e eq)
 ·rw [hm.heap q q' hq eq,h.frm];rfl
 ·intro e;subst e;exact h.ab (hm.inj _ _ _ ea eb)
 ·intro e;subst e;exact h.aq (hm.inj _ _ _ ea eq)
 ·intro e;subst e;exact h.bq (hm.inj _ _ _ eb eq)
 ·intro i j hi hj e
  have e1:=ei i hi
  have e2:=ei j hj
  rw [e] at e1
  exact h.inj i j hi hj (hm.inj _ _ _ e1 e2)
theorem Tbl.put (h:Tbl H a b q ids w fo fr) {i k:Nat} {f:List (BitVec 64)} {x:BitVec 64} (hf:fo[i]? = some f):Tbl (H.set (ids i) (some (.row 1 ((f.set k x).map b3v)))) a b q ids w (fo.set i (f.set k x)) fr:=by
 obtain ⟨g1,g2,g3,g4,g5⟩:=h.sub i f hf
 have hi:i < fo.length:=(List.getElem?_eq_some_iff.1 hf).1
 have hil:=a0k g1
 refine ⟨?_,?_,?_,?_,h.ab,h.aq,h.bq,?_⟩
 ·rw [a33 g2,h.out,List.length_set]
 ·rw [a33 g3,h.top,List.length_set]
 ·intro j f' hf'
  rw [List.getElem?_set] at hf'
  by_cases hij:i = j
  ·subst hij
   simp only [if_true,hi,Option.some.injEq] at hf'
   subst hf'
   exact ⟨b15 hil,g2,g3,g4,by rw [List.length_set];exact g5⟩
  ·rw [if_neg hij] at hf'
   obtain ⟨k1,k2,k3,k4,k5⟩:=h.sub j f' hf'
   refine ⟨?_,k2,k3,k4,k5⟩
   rw [a33,k1]
   intro e
   exact hij (h.inj i j hi (List.getElem?_eq_some_iff.1 hf').1 e)
 ·rw [a33 g4,h.frm]
 ·intro i' j hi' hj;rw [List.length_set] at hi' hj;exact h.inj i' j hi' hj
theorem Tbl.same (h:Tbl H a b q ids w fo fr) (h1:∀ c,(c = a ∨ c = b ∨ c = q ∨ ∃ j,j < fo.length ∧ c = ids j) → a04 H1 c = a04 H c):Tbl H1 a b q ids w fo fr:=
 ⟨by rw [h1 a (.inl rfl),h.out],by rw [h1 b (.inr (.inl rfl)),h.top],fun j f hf=>by
  obtain ⟨g1,g2⟩:=h.sub j f hf
  exact ⟨by rw [h1 (ids j) (.inr (.inr (.inr ⟨j,(List.getElem?_eq_some_iff.1 hf).1,rfl⟩))),g1],g2⟩,by rw [h1 q (.inr (.inr (.inl rfl))),h.frm],h.ab,h.aq,h.bq,h.inj⟩
theorem Tbl.more {L:a06} (h:Tbl H a b q ids w fo fr):Tbl (H ++ L) a b q ids w fo fr:=by
 refine h.same fun c hc=>a55 (eq_true ?_)
 rcases hc with rfl|rfl|rfl|⟨j,hj,rfl⟩
 ·exact a0k h.out
 ·exact a0k h.top
 ·exact a0k h.frm
 ·obtain ⟨f,hf⟩:∃ f,fo[j]? = some f:=⟨_,z9e hj⟩
  exact a0k (h.sub j f hf).1
def Tbl.blocks (a b q:Nat) (ids:Nat → Nat) (n:Nat):List Nat:=a :: b :: q :: (List.range n).map ids
theorem Tbl.mem_blocks {c n:Nat}:c ∈ Tbl.blocks a b q ids n ↔ c = a ∨ c = b ∨ c = q ∨ ∃ j,j < n ∧ c = ids j:=by
 unfold Tbl.blocks
 simp only [List.mem_cons,List.mem_map,List.mem_range]
 constructor
 ·rintro (h|h|h|⟨j,hj,rfl⟩)
  ·exact .inl h
  ·exact .inr (.inl h)
  ·exact .inr (.inr (.inl h))
  ·exact .inr (.inr (.inr ⟨j,hj,rfl⟩))
 ·rintro (h|h|h|⟨j,hj,rfl⟩)
  ·exact .inl h
  ·exact .inr (.inl h)
  ·exact .inr (.inr (.inl h))
  ·exact .inr (.inr (.inr ⟨j,hj,rfl⟩))
theorem Tbl.closed (h:Tbl H a b q ids w fo fr):∀ c ∈ Tbl.blocks a b q ids fo.length,∀ d ∈ a0v (a04 H c),d ∈ Tbl.blocks a b q ids fo.length:=by
 intro c hc d hd
 rw [Tbl.mem_blocks] at hc ⊢
 rcases hc with rfl|rfl|rfl|⟨j,hj,rfl⟩
 ·rw [h.out] at hd
  simp [a0v,a0d,refs] at hd
  exact .inr (.inl hd)
 ·obtain ⟨j,hj,rfl⟩:=h.top_refs.1 hd
  exact .inr (.inr (.inr ⟨j,hj,rfl⟩))
 ·rw [h.frm] at hd
  simp [a0v,a0d,refs] at hd
 ·obtain ⟨f,hf⟩:∃ f,fo[j]? = some f:=⟨_,z9e hj⟩
  rw [(h.sub j f hf).1,a0t (b6m f)] at hd
  simp at hd
theorem Tbl.cost (h:Tbl H a b q ids w fo fr):((Tbl.blocks a b q ids fo.length).map fun c=>(a0v (a04 H c)).length).sum ≤ fo.length + 1:=by
 unfold Tbl.blocks
 have e1:(a0v (a04 H a)).length = 1:=by rw [h.out];rfl
 have e2:(a0v (a04 H q)).length = 0:=by rw [h.frm];rfl
 have e3:(a0v (a04 H b)).length = fo.length:=by
  rw [h.top]
  have hlen:∀ l:List Nat,((l.map fun j=>[AV.slice (ids j) 0 w (some w)]).flatMap a0d).length = l.length:=by
   intro l;induction l with
   | nil=>rfl
   | cons x l ih=>simp only [List.map_cons,List.flatMap_cons,List.length_append,ih,List.length_cons];simp [a0d,refs];omega
  have:=hlen (List.range fo.length)
  rw [List.length_range] at this
  exact this
 have e4:(((List.range fo.length).map ids).map fun c=>(a0v (a04 H c)).length).sum = 0:=by
  refine a9f _ ?_
  intro c hc
  obtain ⟨j,hj,rfl⟩:=List.mem_map.1 hc
  obtain ⟨f,hf⟩:∃ f,fo[j]? = some f:=⟨_,z9e (by simpa using hj)⟩
  rw [(h.sub j f hf).1];exact a0t (b6m f)
 simp only [List.map_cons,List.sum_cons,e1,e2,e3,e4]
 omega
end
/-! ### calls, wherever the blocks lie -/
theorem b7f {H:a06} {σ:List Nat} (hn:σ.Nodup) {b:Nat} (hb:b ∈ σ):∃ j,a50 σ b = some j ∧ σ[j]? = some b ∧ a04 (a1n H σ (a50 σ)) j = (a04 H b).map (a0m (a50 σ)):=by
 obtain ⟨j,hj⟩:=List.mem_iff_getElem?.1 hb
 refine ⟨j,a32 hn hj,hj,?_⟩
 unfold a1n a04
 rw [List.getElem?_map,hj];rfl
theorem e0x {H H1:a06} {σ:List Nat} {n b j:Nat} (hn:σ.Nodup) (hj:σ[j]? = some b) (hb:b < H.length):a04 (a11 σ n H1 0 H) b = (a04 H1 j).map (a0m (a18 σ n)):=by
 unfold a04
 rw [a61,z9e hb,Nat.zero_add,a32 hn hj]
 rfl
theorem c67 {H H1:a06} {σ:List Nat} {n b:Nat} (hb:b ∉ σ):a04 (a11 σ n H1 0 H) b = a04 H b:=by
 unfold a04
 rw [a61,Nat.zero_add]
 have:σ.idxOf? b = none:=by
  cases h:σ.idxOf? b with
  | none=>rfl
  | some j=>exact absurd (List.mem_of_getElem? (a1d h)) hb
 rw [this]
 cases H[b]?<;>rfl
theorem a95 {σ:List Nat} {n:Nat} {H1:a06}:∀ (s:Nat) (H:a06),(a11 σ n H1 s H).length = H.length
 | _,[]=>rfl
 | s,o :: H=>by simp [a11,a95 (s + 1) H]
theorem c1n {H:a06} {init σ:List Nat} (hr:Reached H init σ):Mv H (·∈ σ) (a50 σ) (a1n H σ (a50 σ)):=by
 refine ⟨?_,hr.closed,fun b hb=>?_,fun b c hb hc=>?_⟩
 ·intro a b c ha hb
  have h1:=a1d ha
  have h2:=a1d hb
  rw [h1] at h2;exact z9o h2
 ·obtain ⟨j,hj,_⟩:=b7f (H:=H) hr.nodup hb;exact ⟨j,hj⟩
 ·obtain ⟨j,hj,_,e⟩:=b7f (H:=H) hr.nodup hb
  rw [hj] at hc;cases hc;exact e
theorem c6m {H H1:a06} {σ:List Nat} (hn:σ.Nodup) (hl:∀ b ∈ σ,b < H.length) (R:Nat → Prop) (hR:∀ j,R j → j < σ.length) (hc:∀ j,R j → ∀ c ∈ a0v (a04 H1 j),R c):Mv H1 R (a18 σ H.length) (a11 σ H.length H1 0 H):=by
 have hb:∀ j,j < σ.length → a18 σ H.length j = σ[j]?:=fun j hj=>by
  unfold a18;rw [show Nat.blt j σ.length = true by rw [Nat.blt_eq];exact hj];rfl
 have hge:∀ j,¬ j < σ.length → a18 σ H.length j = some (H.length + (j - σ.length)):=fun j hj=>by
  unfold a18
  have:Nat.blt j σ.length = false:=by rw [Bool.eq_false_iff];intro h;rw [Nat.blt_eq] at h;exact hj h
  rw [this];rfl
 refine ⟨?_,hc,fun j hj=>?_,fun j c hj hjc=>?_⟩
 ·intro x y c hx hy
  by_cases h1:x < σ.length<;>by_cases h2:y < σ.length
  ·rw [hb x h1] at hx;rw [hb y h2] at hy
   exact (List.getElem?_inj h1 hn).1 (hx.trans hy.symm)
  ·rw [hb x h1] at hx;rw [hge y h2] at hy
   have:=hl c (List.mem_of_getElem? hx)
   cases hy;omega
  ·rw [hge x h1] at hx;rw [hb y h2] at hy
   have:=hl c (List.mem_of_getElem? hy)
   cases hx;omega
  ·rw [hge x h1] at hx;rw [hge y h2] at hy
   cases hx;simp only [Option.some.injEq] at hy;omega
 ·rw [hb j (hR j hj)];exact ⟨_,z9e (hR j hj)⟩
 ·rw [hb j (hR j hj)] at hjc
  exact e0x hn hjc (hl c (List.mem_of_getElem? hjc))
theorem a8a {σ:List Nat} {n b j:Nat} (hj:a50 σ b = some j):a18 σ n j = some b:=by
 have h:=a1d hj
 have hl:=(List.getElem?_eq_some_iff.1 h).1
 unfold a18
 rw [show Nat.blt j σ.length = true by rw [Nat.blt_eq];exact hl]
 exact h
theorem b3j (run:List AV → a06 → Option (AV × a06)) (args:List AV) (H:a06) (S:List Nat) (h1:∀ b ∈ a0d args,b ∈ S) (h2:∀ b ∈ S,∀ c ∈ a0v (a04 H b),c ∈ S) (h3:∀ b ∈ S,b < H.length)
 (hn:(a0d args).length + (S.map fun b=>(a0v (a04 H b)).length).sum < 1000000) :
 ∃ σ:List Nat,Reached H (a0d args) σ ∧ (∀ b ∈ σ,b < H.length) ∧ ∀ v H1,run (args.map (ren (a50 σ))) (a1n H σ (a50 σ)) = some (v,H1) →
  a2t run args H = some (ren (a18 σ H.length) v,a11 σ H.length H1 0 H ++ (H1.drop σ.length).map (Option.map (a0m (a18 σ H.length))),σ):=by
 have hr:=b4m (H:=H) (init:=a0d args) S h1 h2 hn
 have hlt:∀ b ∈ a2j H 1000000 (a0d args) [],b < H.length:=fun b hb=>h3 b (hr.least (·∈ S) h1 h2 b hb)
 refine ⟨_,hr,hlt,fun v H1 hrun=>?_⟩
 exact a0y run args H rfl (a9n hr.nodup) (by rw [List.all_eq_true];intro b hb;simpa using hlt b hb) rfl rfl hrun
end Go.Ax
/- AxTab2: a table that a call has been given: heads of loops and calls that write it. -/
namespace Go.Ax
section
variable {H H1:a06} {a b q:Nat} {ids:Nat → Nat} {w:Nat} {fo:List (List (BitVec 64))} {fr:Int}
theorem Tbl.congr {ids':Nat → Nat} (h:Tbl H a b q ids' w fo fr) (he:∀ j,j < fo.length → ids' j = ids j):Tbl H a b q ids w fo fr:=by
 refine ⟨h.out,?_,?_,h.frm,h.ab,h.aq,h.bq,?_⟩
 ·rw [h.top];congr 2
  refine List.map_congr_left fun j hj=>?_
  rw [he j (by simpa using hj)]
 ·intro j f hf
  have:=h.sub j f hf
  rwa [he j (List.getElem?_eq_some_iff.1 hf).1] at this
 ·intro i j hi hj e
  exact h.inj i j hi hj (by rw [he i hi,he j hj];exact e)
theorem Tbl.stay {R:Nat → Prop} {π:Nat → Option Nat} (h:Tbl H a b q ids w fo fr) (hm:Mv H R π H1) (ha:R a) (hq:R q) (hπ:∀ c ∈ Tbl.blocks a b q ids fo.length,π c = some c):Tbl H1 a b q ids w fo fr:=by
 obtain ⟨a',b',q',ids',e1,e2,e3,e4,ht⟩:=h.mv hm ha hq
 rw [hπ a (Tbl.mem_blocks.2 (.inl rfl))] at e1
 rw [hπ b (Tbl.mem_blocks.2 (.inr (.inl rfl)))] at e2
 rw [hπ q (Tbl.mem_blocks.2 (.inr (.inr (.inl rfl))))] at e3
 cases e1;cases e2;cases e3
 refine ht.congr fun j hj=>?_
 have:=e4 j hj
 rw [hπ (ids j) (Tbl.mem_blocks.2 (.inr (.inr (.inr ⟨j,hj,rfl⟩))))] at this
 exact (z9o this).symm
structure TSt (H:a06) (m a b q:Nat) (ids:Nat → Nat) (w:Nat) (fo:List (List (BitVec 64))) (fr:Int):Prop where
 tbl:Tbl H a b q ids w fo fr
 lowf:∀ c,c < m → c ∈ Tbl.blocks a b q ids fo.length ∨ a0v (a04 H c) = []
 bnd:∀ c ∈ Tbl.blocks a b q ids fo.length,c < m
mutual
theorem b7o {m:Nat} {π:Nat → Option Nat} (hπ:∀ c,c < m → π c = some c):∀ (v:AV),(∀ c ∈ refs v,c < m) → ren π v = v
 | .ptr b i o,h=>by simp only [ren,hπ b (h b (by simp [refs]))]
 | .slice b o l c,h=>by simp only [ren,hπ b (h b (by simp [refs]))]
 | .map b,h=>by simp only [ren,hπ b (h b (by simp [refs]))]
 | .func fn fs cs,h=>by
  simp only [refs,List.mem_append] at h
  simp only [ren,a5a hπ fs (fun c hc=>h c (.inl hc)),a5a hπ cs (fun c hc=>h c (.inr hc))]
 | .iface t x,h=>by simp only [refs] at h;simp only [ren,b7o hπ x h]
 | .agg cs,h=>by simp only [refs] at h;simp only [ren,a5a hπ cs h]
 | .tuple cs,h=>by simp only [refs] at h;simp only [ren,a5a hπ cs h]
 | .junk,_|.bool _,_|.int ..,_|.str _,_|.nilptr,_|.nilslice,_|.nilmap,_|.nilfunc,_|.nilifc,_|.iptr _,_|.islice ..,_|.imap ..,_=>rfl
theorem a5a {m:Nat} {π:Nat → Option Nat} (hπ:∀ c,c < m → π c = some c):∀ (l:List AV),(∀ c ∈ a0d l,c < m) → b76 π l = l
 | [],_=>rfl
 | v :: vs,h=>by
  simp only [a0d,List.mem_append] at h
  simp only [b76,b7o hπ v (fun c hc=>h c (.inl hc)),a5a hπ vs (fun c hc=>h c (.inr hc))]
end
theorem a8k {m:Nat} {π:Nat → Option Nat} (hπ:∀ c,c < m → π c = some c) (l:List AV) (h:∀ c ∈ a0d l,c < m):l.map (ren π) = l:=by rw [← a72];exact a5a hπ l h
theorem b4i {m:Nat} {π:Nat → Option Nat} (hπ:∀ c,c < m → π c = some c) (o:AObj) (h:∀ c ∈ a0v (some o),c < m):a0m π o = o:=by
 cases o with
 | row k rows=>
  simp only [a0m]
  congr 1
  conv=>rhs;rw [← List.map_id rows]
  refine List.map_congr_left fun r hr=>?_
  refine a8k hπ r fun e he=>h e ?_
  simp only [a0v,List.mem_flatMap];exact ⟨r,hr,he⟩
 | map ks vs bs cl=>
  simp only [a0m]
  rw [a8k hπ ks (fun e he=>h e (by simp [a0v,he])),a8k hπ vs (fun e he=>h e (by simp [a0v,he]))]
 | siter s p=>rfl
theorem b9k {f:Nat → Nat}:∀ {l S:List Nat},l.Nodup → (∀ c ∈ l,c ∈ S ∨ f c = 0) → (l.map f).sum ≤ (S.map f).sum
 | [],S,_,_=>by simp
 | c :: l,S,hn,h=>by
  rw [List.nodup_cons] at hn
  rcases h c (by simp) with hc|hc
  ·rw [a9g hc]
   have:=b9k (f:=f) (l:=l) (S:=S.erase c) hn.2 (fun d hd=>by
    rcases h d (by simp [hd]) with h1|h1
    ·exact .inl ((List.mem_erase_of_ne (fun e=>hn.1 (by rw [← e];exact hd))).2 h1)
    ·exact .inr h1)
   simp only [List.map_cons,List.sum_cons];omega
  ·have:=b9k (f:=f) (l:=l) (S:=S) hn.2 (fun d hd=>h d (by simp [hd]))
   simp only [List.map_cons,List.sum_cons,hc];omega
theorem c04 (H:a06):∀ m,m ≤ H.length → ((H.take m).flatMap a0v).length = ((List.range m).map fun c=>(a0v (a04 H c)).length).sum
 | 0,_=>rfl
 | m + 1,h=>by
  have ih:=c04 H m (by omega)
  rw [List.range_succ,List.map_append,List.sum_append,← ih,List.take_add_one,List.flatMap_append,List.length_append]
  congr 1
  rw [z9e (by omega)]
  simp [a04,z9e (show m < H.length by omega)]
theorem b4j {m:Nat} {π:Nat → Option Nat} (hπ:∀ c,c < m → π c = some c):∀ F:Frm,(∀ c ∈ a0d (F.map (·.2)),c < m) → b9d π F = F
 | [],_=>rfl
 | (s,v) :: F,h=>by
  simp only [List.map_cons,a0d,List.mem_append] at h
  have:=a8k hπ [v] (by simp only [a0d,List.append_nil];exact fun c hc=>h c (.inl hc))
  simp only [List.map_cons,List.map_nil,List.cons.injEq,and_true] at this
  rw [c5x,this,b4j hπ F (fun c hc=>h c (.inr hc))]
theorem TSt.low {m:Nat} (h:TSt H m a b q ids w fo fr):∀ c,c < m → ∀ d ∈ a0v (a04 H c),d ∈ Tbl.blocks a b q ids fo.length:=by
 intro c hc d hd
 rcases h.lowf c hc with h1|h1
 ·exact h.tbl.closed c h1 d hd
 ·rw [h1] at hd;simp at hd
theorem TSt.head {m:Nat} {keep:List Nat} {F:Frm} {xb:AObj} (h:TSt H m a b q ids w fo fr) (hx:a04 H m = some xb) (hxf:a0v (some xb) = []) (hxo:FlatO (some xb)) (hn:fo.length ≤ 1000)
 (hF:∀ c ∈ a0d ((a1j keep F).map (·.2)),c < m + 1) (hFl:(a0d ((a1j keep F).map (·.2))).length ≤ 20) (hFm:m ∈ a0d ((a1j keep F).map (·.2))) (hFa:a ∈ a0d ((a1j keep F).map (·.2))) (hFq:q ∈ a0d ((a1j keep F).map (·.2))) (hFlow:∀ c ∈ a0d ((a1j keep F).map (·.2)),c = m ∨ c ∈ Tbl.blocks a b q ids fo.length ∨ a0v (a04 H c) = []) :
 ∃ H1,gcD m keep F H = some (a1j keep F,H1) ∧ TSt H1 m a b q ids w fo fr ∧ a04 H1 m = some xb ∧ H1.length = m + 1 ∧ ∀ c o,c < m → a04 H c = some o → FlatO (some o) → a04 H1 c = some o:=by
 have hml:=a0k hx
 obtain ⟨R,π,H1,g1,g2,g3⟩:=c7h (m:=m) (keep:=keep) (F:=F) (H:=H) (by omega) (m :: (a0d ((a1j keep F).map (·.2)) ++ Tbl.blocks a b q ids fo.length)) (fun c hc=>by simp [hc]) (fun c hc d hd=>by have:=h.low c hc d hd;simp [this]) (by
  intro c hc d hd
  simp only [List.mem_cons,List.mem_append] at hc
  have hbl:c ∈ Tbl.blocks a b q ids fo.length → d ∈ m :: (a0d ((a1j keep F).map (·.2)) ++ Tbl.blocks a b q ids fo.length):=fun hc=>by have:=h.tbl.closed c hc d hd;simp [this]
  rcases hc with rfl|hc|hc
  ·rw [hx,hxf] at hd;simp at hd
  ·rcases hFlow c hc with rfl|hc|hc
   ·rw [hx,hxf] at hd;simp at hd
   ·exact hbl hc
   ·rw [hc] at hd;simp at hd
  ·exact hbl hc) (by
  have hc1:=h.tbl.cost
  have hc0:=c04 H m (by omega)
  have hc3:=b9k (f:=fun c=>(a0v (a04 H c)).length) (l:=List.range m) (S:=Tbl.blocks a b q ids fo.length) List.nodup_range (fun c hc=>(h.lowf c (by simpa using hc)).imp id (fun e=>by rw [e];rfl))
  have hc2:∀ l:List Nat,(∀ c ∈ l,c = m ∨ c ∈ Tbl.blocks a b q ids fo.length ∨ a0v (a04 H c) = []) → (l.map fun c=>(a0v (a04 H c)).length).sum ≤ l.length * 1001:=by
   intro l
   induction l with
   | nil=>intro _;simp
   | cons c l ih=>
    intro hl
    have h1:=ih (fun c hc=>hl c (by simp [hc]))
    have h2:(a0v (a04 H c)).length ≤ 1001:=by
     rcases hl c (by simp) with rfl|hc|hc
     ·rw [hx,hxf];simp
     ·have:=a9g (f:=fun c=>(a0v (a04 H c)).length) hc
      omega
     ·rw [hc];simp
    simp only [List.map_cons,List.sum_cons,List.length_cons];omega
  have hc4:=hc2 _ hFlow
  simp only [List.map_cons,List.sum_cons,List.map_append,List.sum_append,hx,hxf,List.length_nil]
  omega)
 have hRm:R m:=g2.refs m hFm
 obtain ⟨c,hc⟩:=g2.here m hRm
 have hcx:a04 H1 c = some xb:=by rw [g2.heap m c hc,hx];exact hxo π
 have hlen1:H1.length ≤ m + 1:=by
  refine g2.len [m] fun d hd hmd=>?_
  have:=g2.least (fun d=>d ≤ m) (fun d hd=>by have:=hF d hd;omega) (fun c hc d hd=>by have:=h.bnd d (h.low c hc d hd);omega) (fun c hc d hd=>by
   rcases Nat.lt_or_eq_of_le hc with hlt|rfl
   ·have:=h.bnd d (h.low c hlt d hd);omega
   ·rw [hx,hxf] at hd;simp at hd) d hd
  simp;omega
 have hcm:c = m:=by
  have h1:=a0k hcx
  by_cases h2:c < m
  ·have:=g2.inj _ _ _ hc (g2.low c h2);omega
  ·omega
 subst hcm
 have hπ:∀ d,d < c + 1 → π d = some d:=fun d hd=>by
  by_cases h2:d < c
  ·exact g2.low d h2
  ·have:d = c:=by omega
   rw [this];exact hc
 have hRl:∀ d,d ∈ Tbl.blocks a b q ids fo.length → π d = some d:=fun d hd=>g2.low d (h.bnd d hd)
 refine ⟨H1,?_,⟨?_,?_,h.bnd⟩,hcx,?_,?_⟩
 ·rw [g1,b4j hπ _ hF]
 ·exact h.tbl.stay g2.mv (g2.refs a hFa) (g2.refs q hFq) hRl
 ·intro d hd
  rcases h.lowf d hd with h1|h1
  ·exact .inl h1
  ·refine .inr ?_
   rw [g2.heap d d (g2.low d hd)]
   cases ho:a04 H d with
   | none=>rfl
   | some o=>
    rw [ho] at h1
    rw [Option.map_some,b4i g2.low o (fun e he=>by rw [h1] at he;simp at he)]
    exact h1
 ·have:=a0k hcx;omega
 ·intro d o hd ho hfo
  rw [g2.heap d d (g2.low d hd),ho];exact hfo π
end
theorem b7q (a b:List AV):a0d (a ++ b) = a0d a ++ a0d b:=by
 induction a with
 | nil=>rfl
 | cons v a ih=>simp only [List.cons_append,a0d,ih,List.append_assoc]
theorem c8i {E:Env} {d:Bool} {call:CallF} {g:FuncId} {args:List AV} {H:a06} {m a b q:Nat} {ids:Nat → Nat} {w:Nat} {fo fo':List (List (BitVec 64))} {fr:Int} (hx:E.ext g = false) (hf:(E.fn g).isSome = true)
 (h:TSt H m a b q ids w fo fr) (hm:m ≤ H.length) (hn:fo.length ≤ 1000) (ha:a0d args = []) (hl:fo'.length = fo.length)
 (hrun:∀ (H0:a06) (a' b' q':Nat) (ids':Nat → Nat),Tbl H0 a' b' q' ids' w fo fr → (∀ c,c < H0.length → c ∈ Tbl.blocks a' b' q' ids' fo.length) → ∃ H1,call g (args ++ [.ptr a' 0 0,.ptr q' 0 0]) H0 = some (.tuple [],H1) ∧ H1.length = H0.length ∧ Tbl H1 a' b' q' ids' w fo' fr) :
 ∃ H' σ,a0e E d call (.func (.func g) [] [.ptr a 0 0,.ptr q 0 0]) args H = some (.tuple [],H',σ) ∧ TSt H' m a b q ids w fo' fr ∧ H'.length = H.length ∧ ∀ c,c ∉ Tbl.blocks a b q ids fo.length → a04 H' c = a04 H c:=by
 have hrf:a0d ([] ++ args ++ [AV.ptr a 0 0,.ptr q 0 0]) = [a,q]:=by rw [List.nil_append,b7q,ha];rfl
 have hb1:∀ c ∈ [a,q],c ∈ Tbl.blocks a b q ids fo.length:=by
  intro c hc;simp only [List.mem_cons,List.not_mem_nil,or_false] at hc
  rcases hc with rfl|rfl
  ·exact Tbl.mem_blocks.2 (.inl rfl)
  ·exact Tbl.mem_blocks.2 (.inr (.inr (.inl rfl)))
 have hcost:=h.tbl.cost
 obtain ⟨σ,hr,hlt,hgo⟩:=b3j (call g) ([] ++ args ++ [AV.ptr a 0 0,.ptr q 0 0]) H (Tbl.blocks a b q ids fo.length) (by rw [hrf];exact hb1) h.tbl.closed (fun c hc=>by have:=h.bnd c hc;omega) (by rw [hrf];simp only [List.length_cons,List.length_nil];omega)
 rw [hrf] at hr
 have hsub:∀ c ∈ σ,c ∈ Tbl.blocks a b q ids fo.length:=hr.least (·∈ Tbl.blocks a b q ids fo.length) hb1 (fun c hc d hd=>h.tbl.closed c hc d hd)
 have hmv:=c1n hr
 obtain ⟨a',b',q',ids',e1,e2,e3,e4,ht⟩:=h.tbl.mv hmv (hr.start a (by simp)) (hr.start q (by simp))
 have hslen:(a1n H σ (a50 σ)).length = σ.length:=by simp [a1n]
 have hall:∀ c,c < (a1n H σ (a50 σ)).length → c ∈ Tbl.blocks a' b' q' ids' fo.length:=by
  intro j hj
  rw [hslen] at hj
  obtain ⟨c,hc⟩:∃ c,σ[j]? = some c:=⟨_,z9e hj⟩
  have hpi:a50 σ c = some j:=a32 hr.nodup hc
  have hcb:=hsub c (List.mem_of_getElem? hc)
  rw [Tbl.mem_blocks] at hcb ⊢
  rcases hcb with rfl|rfl|rfl|⟨i,hi,rfl⟩
  ·rw [hpi] at e1;cases e1;exact .inl rfl
  ·rw [hpi] at e2;cases e2;exact .inr (.inl rfl)
  ·rw [hpi] at e3;cases e3;exact .inr (.inr (.inl rfl))
  ·have:=e4 i hi;rw [hpi] at this;cases this;exact .inr (.inr (.inr ⟨i,hi,rfl⟩))
 obtain ⟨H1,hc1,hl1,ht1⟩:=hrun _ a' b' q' ids' ht hall
 have hra:([] ++ args ++ [AV.ptr a 0 0,.ptr q 0 0]).map (ren (a50 σ)) = args ++ [.ptr a' 0 0,.ptr q' 0 0]:=by
  rw [List.nil_append,List.map_append,a5n _ ha]
  simp only [List.map_cons,List.map_nil,ren,e1,e3]
 have hgo:=hgo (.tuple []) H1 (by rw [hra];exact hc1)
 have hd:(H1.drop σ.length) = []:=List.drop_eq_nil_of_le (by rw [hl1,hslen];omega)
 rw [hd,List.map_nil,List.append_nil] at hgo
 have hbk:=c6m (H:=H) (H1:=H1) hr.nodup hlt (fun j=>j < σ.length) (fun j hj=>hj) (by
  intro j hj c hc
  have hjb:=hall j (by rw [hslen];exact hj)
  rw [← hl] at hjb
  have hcb:=ht1.closed j hjb c hc
  have:c < H1.length:=by
   rw [Tbl.mem_blocks] at hcb
   rcases hcb with rfl|rfl|rfl|⟨i,hi,rfl⟩
   ·exact a0k ht1.out
   ·exact a0k ht1.top
   ·exact a0k ht1.frm
   ·obtain ⟨f,hf⟩:∃ f,fo'[i]? = some f:=⟨_,z9e hi⟩
    exact a0k (ht1.sub i f hf).1
  rw [hl1,hslen] at this;exact this)
 have hal:a' < σ.length:=(List.getElem?_eq_some_iff.1 (a1d e1)).1
 have hql:q' < σ.length:=(List.getElem?_eq_some_iff.1 (a1d e3)).1
 obtain ⟨a2,b2,q2,ids2,f1,f2,f3,f4,ht2⟩:=ht1.mv hbk hal hql
 rw [a8a e1] at f1
 rw [a8a e2] at f2
 rw [a8a e3] at f3
 cases f1;cases f2;cases f3
 have ht3:Tbl (a11 σ H.length H1 0 H) a b q ids w fo' fr:=ht2.congr fun j hj=>by
  have h4:=f4 j hj
  rw [a8a (e4 j (by rw [← hl];exact hj))] at h4
  exact (z9o h4).symm
 have hout:∀ c,c ∉ Tbl.blocks a b q ids fo.length → a04 (a11 σ H.length H1 0 H) c = a04 H c:=fun c hc=>c67 (fun hcs=>hc (hsub c hcs))
 have hpl:(a11 σ H.length H1 0 H).length = H.length:=a95 0 H
 refine ⟨_,σ,a23 hx hf rfl (by simpa [ren,b76] using hgo) hpl,⟨ht3,?_,by rw [hl];exact h.bnd⟩,hpl,hout⟩
 intro c hc
 rw [hl]
 rcases h.lowf c hc with h1|h1
 ·exact .inl h1
 ·by_cases hcb:c ∈ Tbl.blocks a b q ids fo.length
  ·exact .inl hcb
  ·rw [hout c hcb];exact .inr h1
end Go.Ax
/- AxLog: the look at a drawn region's log, the order first. -/
namespace Go.Ax
def a77 (all:List Oper) (j:Nat) (y:LogE):Nat → List LogE → Bool
 | _,[]=>true
 | 0,_ :: _=>false
 | i + 1,x :: rest=>(a3x all i j || !(x.clash y)) && a77 all j y i rest
def a9p (all:List Oper):Nat → List LogE → Bool
 | _,[]=>true
 | 0,_ :: _=>false
 | j + 1,y :: rest=>a77 all j y j rest && a9p all j rest
theorem b4s (all:List Oper) (j:Nat) (y:LogE):∀ (i:Nat) (l:List LogE),a77 all j y i l = logOk.logRow all j y i l
 | _,[]=>by unfold a77 logOk.logRow;rfl
 | 0,_ :: _=>by unfold a77 logOk.logRow;rfl
 | i + 1,x :: rest=>by unfold a77 logOk.logRow;rw [b4s all j y i rest,Bool.or_comm]
theorem b83 (all:List Oper):∀ (i:Nat) (l:List LogE),a9p all i l = logOk all i l
 | _,[]=>by unfold a9p logOk;rfl
 | 0,_ :: _=>by unfold a9p logOk;rfl
 | j + 1,y :: rest=>by unfold a9p logOk;rw [b83 all j rest,b4s]
theorem xs2 {F F1:Frm} {H H1:a06} {Q:b0a} {E:Env} {M:List Fact} {m N:Nat} {g:FuncId} {cur:Nat} {id ops draw} {log:List LogE} (h:a8q E draw N (sem E M) ops.toList ops.toList [] F H = some (F1,H1,log)) (hl:(!draw || a9p ops.toList log.length log) = true) (hq:Q .normal F1 H1):Wp (cx E M m N g cur) (.region id ops draw) F H Q:=
 xs h (by rw [← b83];exact hl) hq
def c4t (all:List Oper) (j:Nat) (y:LogE):List LogE → Prop
 | []=>True
 | x :: rest=>(a3x all rest.length j = true ∨ x.clash y = false) ∧ c4t all j y rest
def d4p (all:List Oper):List LogE → Prop
 | []=>True
 | y :: rest=>c4t all rest.length y rest ∧ d4p all rest
theorem c1r {all:List Oper}:d4p all []:=by unfold d4p;trivial
theorem b82 {all:List Oper} {y:LogE} {rest:List LogE} (h1:c4t all rest.length y rest) (h2:d4p all rest):d4p all (y :: rest):=by unfold d4p;exact ⟨h1,h2⟩
theorem c19 {all:List Oper} {j:Nat} {y:LogE}:c4t all j y []:=by unfold c4t;trivial
theorem c18 {all:List Oper} {j:Nat} {y x:LogE} {rest:List LogE} (h1:a3x all rest.length j = true) (h2:c4t all j y rest):c4t all j y (x :: rest):=by unfold c4t;exact ⟨.inl h1,h2⟩
theorem c1a {all:List Oper} {j:Nat} {y x:LogE} {rest:List LogE} (h1:x.clash y = false) (h2:c4t all j y rest):c4t all j y (x :: rest):=by unfold c4t;exact ⟨.inr h1,h2⟩
theorem c5k {all:List Oper} {j:Nat} {y:LogE}:∀ {l:List LogE},c4t all j y l → a77 all j y l.length l = true
 | [],_=>by unfold a77;rfl
 | x :: rest,h=>by
  rw [List.length_cons]
  unfold a77
  rw [c5k h.2,Bool.and_true]
  rcases h.1 with h1|h1
  ·rw [h1,Bool.true_or]
  ·rw [h1];simp
theorem c6s {all:List Oper}:∀ {l:List LogE},d4p all l → a9p all l.length l = true
 | [],_=>by unfold a9p;rfl
 | y :: rest,h=>by
  rw [List.length_cons]
  unfold a9p
  rw [c6s h.2,Bool.and_true]
  exact c5k h.1
theorem xs3 {F F1:Frm} {H H1:a06} {Q:b0a} {E:Env} {M:List Fact} {m N:Nat} {g:FuncId} {cur:Nat} {id ops draw} {log:List LogE} (h:a8q E draw N (sem E M) ops.toList ops.toList [] F H = some (F1,H1,log)) (hl:d4p ops.toList log) (hq:Q .normal F1 H1):Wp (cx E M m N g cur) (.region id ops draw) F H Q:=
 xs2 h (by rw [c6s hl];simp) hq
theorem b8s {x y:LogE} (h1:∀ a ∈ x.keys,a ∉ y.needs) (h2:∀ a ∈ x.keys,a ∉ y.keys) (h3:∀ a ∈ x.needs,a ∉ y.keys):x.clash y = false:=by
 have hm:∀ l k:List Nat,(∀ a ∈ l,a ∉ k) → b2l l k = false:=by
  intro l k h
  unfold b2l
  rw [List.any_eq_false]
  intro a ha
  have:=h a ha
  rw [Bool.not_eq_true]
  cases hc:a1f k a with
  | false=>rfl
  | true=>exact absurd (a2m.1 hc) this
 unfold LogE.clash
 rw [hm _ _ h1,hm _ _ h2,hm _ _ h3];rfl
end Go.Ax
namespace Go.Ax
theorem d4r {F:Frm} {H:a06} {Q:b0a} {E:Env} {M:List Fact} {m N:Nat} {g:FuncId} {cur:Nat} {id ops} (R:Frm → a06 → Prop) (h:∃ F1 H1 log,a8q E false N (sem E M) ops.toList ops.toList [] F H = some (F1,H1,log) ∧ R F1 H1) (hq:∀ F1 H1,R F1 H1 → Q .normal F1 H1):Wp (cx E M m N g cur) (.region id ops false) F H Q:=by
 obtain ⟨F1,H1,log,h1,h3⟩:=h
 exact xs h1 rfl (hq _ _ h3)
theorem b4p {draw:Bool} {E:Env} {M:List Fact} {N:Nat} {ops:List Oper} {F F1:Frm} {H H1:a06} {log:List LogE} {R:Frm → a06 → Prop} (h1:a8q E draw N (sem E M) ops ops [] F H = some (F1,H1,log)) (h3:R F1 H1):∃ F1 H1 log,a8q E draw N (sem E M) ops ops [] F H = some (F1,H1,log) ∧ R F1 H1:=⟨_,_,_,h1,h3⟩
end Go.Ax
/- AxTab3: calls that are given a table (and a list in a block). -/
namespace Go.Ax
theorem Tbl.lt {H:a06} {a b q:Nat} {ids:Nat → Nat} {w:Nat} {fo:List (List (BitVec 64))} {fr:Int} (h:Tbl H a b q ids w fo fr):∀ c ∈ Tbl.blocks a b q ids fo.length,c < H.length:=by
 intro c hc
 rw [Tbl.mem_blocks] at hc
 rcases hc with rfl|rfl|rfl|⟨i,hi,rfl⟩
 ·exact a0k h.out
 ·exact a0k h.top
 ·exact a0k h.frm
 ·obtain ⟨f,hf⟩:∃ f,fo[i]? = some f:=⟨_,z9e hi⟩
  exact a0k (h.sub i f hf).1
theorem c8j {E:Env} {d:Bool} {call:CallF} {g:FuncId} {H:a06} {a b q:Nat} {ids:Nat → Nat} {w:Nat} {fo fo':List (List (BitVec 64))} {fr:Int} (hx:E.ext g = false) (hf:(E.fn g).isSome = true)
 (mk:Nat → Nat → List AV) (hmk:∀ y z,a0d (mk y z) = [y,z]) (hren:∀ (π:Nat → Option Nat) (y z y' z':Nat),π y = some y' → π z = some z' → (mk y z).map (ren π) = mk y' z')
 (ht:Tbl H a b q ids w fo fr) (hn:fo.length ≤ 1000) (hl:fo'.length = fo.length)
 (hrun:∀ (H0:a06) (a' b' q':Nat) (ids':Nat → Nat),TSt H0 H0.length a' b' q' ids' w fo fr → ∃ H1,call g (mk a' q') H0 = some (.tuple [],H1) ∧ H1.length = H0.length ∧ Tbl H1 a' b' q' ids' w fo' fr) :
 ∃ H' σ,a0e E d call (.func (.func g) [] []) (mk a q) H = some (.tuple [],H',σ) ∧ Tbl H' a b q ids w fo' fr ∧ H'.length = H.length ∧ ∀ c,c ∉ Tbl.blocks a b q ids fo.length → a04 H' c = a04 H c:=by
 have hrf:a0d ([] ++ mk a q ++ []) = [a,q]:=by rw [List.nil_append,List.append_nil,hmk]
 have hblt:=ht.lt
 have hb1:∀ c ∈ [a,q],c ∈ Tbl.blocks a b q ids fo.length:=by
  intro c hc;simp only [List.mem_cons,List.not_mem_nil,or_false] at hc 
  rcases hc with rfl|rfl
  ·exact Tbl.mem_blocks.2 (.inl rfl)
  ·exact Tbl.mem_blocks.2 (.inr (.inr (.inl rfl)))
 have hSc:∀ c ∈ Tbl.blocks a b q ids fo.length,∀ d ∈ a0v (a04 H c),d ∈ Tbl.blocks a b q ids fo.length:=by
  intro c hc d hd
  exact ht.closed c hc d hd
 have hcost:=ht.cost
 obtain ⟨σ,hr,hlt,hgo⟩:=b3j (call g) ([] ++ mk a q ++ []) H (Tbl.blocks a b q ids fo.length) (by rw [hrf];exact hb1) hSc (by
  intro c hc
  exact hblt c hc) (by rw [hrf];simp only [List.length_cons,List.length_nil];omega)
 rw [hrf] at hr
 have hsub:∀ c ∈ σ,c ∈ Tbl.blocks a b q ids fo.length:=hr.least (·∈ Tbl.blocks a b q ids fo.length) hb1 (fun c hc d hd=>hSc c hc d hd)
 have hmv:=c1n hr
 obtain ⟨a',b',q',ids',e1,e2,e3,e4,ht'⟩:=ht.mv hmv (hr.start a (by simp)) (hr.start q (by simp))
 have hslen:(a1n H σ (a50 σ)).length = σ.length:=by simp [a1n]
 have hall:∀ c,c < (a1n H σ (a50 σ)).length → c ∈ Tbl.blocks a' b' q' ids' fo.length:=by
  intro j hj
  rw [hslen] at hj
  obtain ⟨c,hc⟩:∃ c,σ[j]? = some c:=⟨_,z9e hj⟩
  have hpi:a50 σ c = some j:=a32 hr.nodup hc
  have hcb:=hsub c (List.mem_of_getElem? hc)
  rw [Tbl.mem_blocks] at hcb ⊢
  rcases hcb with rfl|rfl|rfl|⟨i,hi,rfl⟩
  ·rw [hpi] at e1;cases e1;exact .inl rfl
  ·rw [hpi] at e2;cases e2;exact .inr (.inl rfl)
  ·rw [hpi] at e3;cases e3;exact .inr (.inr (.inl rfl))
  ·have:=e4 i hi;rw [hpi] at this;cases this;exact .inr (.inr (.inr ⟨i,hi,rfl⟩))
 have hTS:TSt (a1n H σ (a50 σ)) (a1n H σ (a50 σ)).length a' b' q' ids' w fo fr:=⟨ht',fun c hc=>.inl (hall c hc),fun c hc=>ht'.lt c hc⟩
 obtain ⟨H1,hc1,hl1,ht1⟩:=hrun _ a' b' q' ids' hTS
 have hra:([] ++ mk a q ++ []).map (ren (a50 σ)) = mk a' q':=by
  rw [List.nil_append,List.append_nil]
  exact hren _ _ _ _ _ e1 e3
 have hgo:=hgo (.tuple []) H1 (by rw [hra];exact hc1)
 have hd:(H1.drop σ.length) = []:=List.drop_eq_nil_of_le (by rw [hl1,hslen];omega)
 rw [hd,List.map_nil,List.append_nil] at hgo
 have hbk:=c6m (H:=H) (H1:=H1) hr.nodup hlt (fun j=>j < σ.length) (fun j hj=>hj) (by
  intro j hj c hc
  have hjb:=hall j (by rw [hslen];exact hj)
  rw [← hl] at hjb
  have:=ht1.lt c (ht1.closed j hjb c hc)
  rw [hl1,hslen] at this;exact this)
 have hal:a' < σ.length:=(List.getElem?_eq_some_iff.1 (a1d e1)).1
 have hql:q' < σ.length:=(List.getElem?_eq_some_iff.1 (a1d e3)).1
 obtain ⟨a2,b2,q2,ids2,f1,f2,f3,f4,ht2⟩:=ht1.mv hbk hal hql
 rw [a8a e1] at f1
 rw [a8a e2] at f2
 rw [a8a e3] at f3
 cases f1;cases f2;cases f3
 have ht3:Tbl (a11 σ H.length H1 0 H) a b q ids w fo' fr:=ht2.congr fun j hj=>by
  have h4:=f4 j hj
  rw [a8a (e4 j (by rw [← hl];exact hj))] at h4
  exact (z9o h4).symm
 have hpl:(a11 σ H.length H1 0 H).length = H.length:=a95 0 H
 refine ⟨_,σ,a23 hx hf rfl (by simpa [ren,b76] using hgo) hpl,ht3,hpl,fun c hc=>c67 (fun hcs=>hc (hsub c hcs))⟩
end Go.Ax
/- AxTab4: a table that is being c1q; heads of the loops that make and fill it. -/
namespace Go.Ax
structure Tb0 (H:a06) (a b:Nat) (ids:Nat → Nat) (w n i:Nat):Prop where
 out:a04 H a = some (.row 1 [[.slice b 0 n (some n)]])
 top:a04 H b = some (.row 1 ((List.range n).map fun j=>if j < i then [AV.slice (ids j) 0 w (some w)] else [.nilslice]))
 sub:∀ j,j < i → a04 H (ids j) = some (.row 1 (List.replicate w (b3v 0))) ∧ ids j ≠ a ∧ ids j ≠ b
 ab:a ≠ b
 inj:∀ j k,j < i → k < i → ids j = ids k → j = k
section
variable {H H1:a06} {R:Nat → Prop} {π:Nat → Option Nat} {a b:Nat} {ids:Nat → Nat} {w n i:Nat}
def Tb0.blocks (a b:Nat) (ids:Nat → Nat) (i:Nat):List Nat:=a :: b :: (List.range i).map ids
theorem Tb0.mem_blocks {c:Nat}:c ∈ Tb0.blocks a b ids i ↔ c = a ∨ c = b ∨ ∃ j,j < i ∧ c = ids j:=by
 unfold Tb0.blocks
 simp only [List.mem_cons,List.mem_map,List.mem_range]
 constructor
 ·rintro (h|h|⟨j,hj,rfl⟩)
  ·exact .inl h
  ·exact .inr (.inl h)
  ·exact .inr (.inr ⟨j,hj,rfl⟩)
 ·rintro (h|h|⟨j,hj,rfl⟩)
  ·exact .inl h
  ·exact .inr (.inl h)
  ·exact .inr (.inr ⟨j,hj,rfl⟩)
theorem Tb0.top_refs (h:Tb0 H a b ids w n i) (hin:i ≤ n) {c:Nat}:c ∈ a0v (a04 H b) ↔ ∃ j,j < i ∧ c = ids j:=by
 rw [h.top]
 show c ∈ ((List.range n).map fun j=>if j < i then [AV.slice (ids j) 0 w (some w)] else [.nilslice]).flatMap a0d ↔ _
 simp only [List.mem_flatMap,List.mem_map,List.mem_range]
 constructor
 ·rintro ⟨r,⟨j,hj,rfl⟩,hc⟩
  split at hc
  ·rename_i hji;exact ⟨j,hji,by simpa [a0d,refs] using hc⟩
  ·simp [a0d,refs] at hc
 ·rintro ⟨j,hj,rfl⟩
  exact ⟨_,⟨j,by omega,rfl⟩,by simp [hj,a0d,refs]⟩
theorem Tb0.closed (h:Tb0 H a b ids w n i) (hin:i ≤ n):∀ c ∈ Tb0.blocks a b ids i,∀ d ∈ a0v (a04 H c),d ∈ Tb0.blocks a b ids i:=by
 intro c hc d hd
 rw [Tb0.mem_blocks] at hc ⊢
 rcases hc with rfl|rfl|⟨j,hj,rfl⟩
 ·rw [h.out] at hd
  simp [a0v,a0d,refs] at hd
  exact .inr (.inl hd)
 ·obtain ⟨j,hj,rfl⟩:=(h.top_refs hin).1 hd
  exact .inr (.inr ⟨j,hj,rfl⟩)
 ·rw [(h.sub j hj).1,a0t (FlatR.replicate rfl)] at hd
  simp at hd
theorem Tb0.cost (h:Tb0 H a b ids w n i):((Tb0.blocks a b ids i).map fun c=>(a0v (a04 H c)).length).sum ≤ n + 1:=by
 unfold Tb0.blocks
 have e1:(a0v (a04 H a)).length = 1:=by rw [h.out];rfl
 have e3:(a0v (a04 H b)).length ≤ n:=by
  rw [h.top]
  have hlen:∀ l:List Nat,((l.map fun j=>if j < i then [AV.slice (ids j) 0 w (some w)] else [.nilslice]).flatMap a0d).length ≤ l.length:=by
   intro l;induction l with
   | nil=>exact Nat.le_refl _
   | cons x l ih=>
    simp only [List.map_cons,List.flatMap_cons,List.length_append,List.length_cons]
    have:(a0d (if x < i then [AV.slice (ids x) 0 w (some w)] else [AV.nilslice])).length ≤ 1:=by split<;>simp [a0d,refs]
    omega
  have:=hlen (List.range n)
  rw [List.length_range] at this
  exact this
 have e4:(((List.range i).map ids).map fun c=>(a0v (a04 H c)).length).sum = 0:=by
  refine a9f _ ?_
  intro c hc
  obtain ⟨j,hj,rfl⟩:=List.mem_map.1 hc
  rw [(h.sub j (by simpa using hj)).1];exact a0t (FlatR.replicate rfl)
 simp only [List.map_cons,List.sum_cons,e1,e4]
 omega
theorem Tb0.mv (h:Tb0 H a b ids w n i) (hin:i ≤ n) (hm:Mv H R π H1) (ha:R a):∃ a' b' ids',π a = some a' ∧ Tb0 H1 a' b' ids' w n i:=by
 have hb:R b:=hm.closed a ha b (by rw [h.out];simp [a0v,a0d,refs])
 have hid:∀ j,j < i → R (ids j):=fun j hj=>hm.closed b hb _ ((h.top_refs hin).2 ⟨j,hj,rfl⟩)
 obtain ⟨a',ea⟩:=hm.here a ha
 obtain ⟨b',eb⟩:=hm.here b hb
 have ei:∀ j,j < i → π (ids j) = some ((π (ids j)).getD 0):=fun j hj=>by obtain ⟨c,hc⟩:=hm.here _ (hid j hj);rw [hc];rfl
 refine ⟨a',b',fun j=>(π (ids j)).getD 0,ea,?_,?_,?_,?_,?_⟩
 ·rw [hm.heap a a' ha ea,h.out]
  simp only [Option.map_some,a0m,List.map_cons,List.map_nil,Ax.ren,eb]
 ·rw [hm.heap b b' hb eb,h.top]
  simp only [Option.map_some,a0m,List.map_map]
  congr 2
  refine List.map_congr_left fun j hj=>?_
  simp only [Function.comp]
  by_cases hji:j < i
  ·have:=ei j hji
   rw [if_pos hji,if_pos hji]
   simp only [List.map_cons,List.map_nil,Ax.ren]
   rw [this];rfl
  ·rw [if_neg hji,if_neg hji];rfl
 ·intro j hj
  obtain ⟨g1,g2,g3⟩:=h.sub j hj
  have e:=ei j hj
  refine ⟨?_,?_,?_⟩
  ·rw [hm.heap _ _ (hid j hj) e,g1]
   simp only [Option.map_some,a0m,a01 π (FlatR.replicate (show a0d (b3v 0) = [] from rfl))]
  ·intro he;rw [he] at e;exact g2 (hm.inj _ _ _ e ea)
  ·intro he;rw [he] at e;exact g3 (hm.inj _ _ _ e eb)
 ·intro e;subst e;exact h.ab (hm.inj _ _ _ ea eb)
 ·intro j k hj hk e
  have e1:=ei j hj
  have e2:=ei k hk
  rw [e] at e1
  exact h.inj j k hj hk (hm.inj _ _ _ e1 e2)
theorem Tb0.same (h:Tb0 H a b ids w n i) (h1:∀ c,(c = a ∨ c = b ∨ ∃ j,j < i ∧ c = ids j) → a04 H1 c = a04 H c):Tb0 H1 a b ids w n i:=
 ⟨by rw [h1 a (.inl rfl),h.out],by rw [h1 b (.inr (.inl rfl)),h.top],fun j hj=>by
  obtain ⟨g1,g2⟩:=h.sub j hj
  exact ⟨by rw [h1 (ids j) (.inr (.inr ⟨j,hj,rfl⟩)),g1],g2⟩,h.ab,h.inj⟩
theorem Tb0.add (h:Tb0 H a b ids w n i) (hi:i < n):Tb0 (H.set b (some (.row 1 (((List.range n).map fun j=>if j < i then [AV.slice (ids j) 0 w (some w)] else [.nilslice]).set i [.slice H.length 0 w (some w)]))) ++ [some (.row 1 (List.replicate w (b3v 0)))]) a b (fun j=>if j = i then H.length else ids j) w n (i + 1):=by
 have hal:=a0k h.out
 have hbl:=a0k h.top
 refine ⟨?_,?_,?_,h.ab,?_⟩
 ·rw [a4p hal,if_neg (Ne.symm h.ab),h.out]
 ·rw [a4p hbl,if_pos rfl]
  congr 2
  apply List.ext_getElem?
  intro j
  rw [List.getElem?_set]
  by_cases hij:i = j
  ·subst hij
   simp [hi]
  ·rw [if_neg hij]
   by_cases hjn:j < n
   ·simp only [List.getElem?_map,List.getElem?_range hjn,Option.map_some,if_neg (Ne.symm hij)]
    congr 1
    by_cases h2:j < i
    ·rw [if_pos h2,if_pos (by omega)]
    ·rw [if_neg h2,if_neg (by omega)]
   ·rw [List.getElem?_eq_none (by simp;omega),List.getElem?_eq_none (by simp;omega)]
 ·intro j hj
  by_cases hji:j = i
  ·subst hji
   simp only [if_true]
   refine ⟨?_,by omega,by omega⟩
   have:=b31 (H:=H) (L:=[some (AObj.row 1 (List.replicate w (b3v 0)))]) (a:=b) (o:=some (.row 1 (((List.range n).map fun j'=>if j' < j then [AV.slice (ids j') 0 w (some w)] else [.nilslice]).set j [.slice H.length 0 w (some w)]))) 0
   rw [Nat.add_zero] at this
   rw [this];rfl
  ·simp only [if_neg hji]
   obtain ⟨g1,g2,g3⟩:=h.sub j (by omega)
   refine ⟨?_,g2,g3⟩
   rw [a4p (a0k g1),if_neg (Ne.symm g3),g1]
 ·intro j k hj hk e
  by_cases h1:j = i<;>by_cases h2:k = i
  ·omega
  ·simp only [h1,if_true,if_neg h2] at e
   have:=a0k (h.sub k (by omega)).1
   omega
  ·simp only [h2,if_true,if_neg h1] at e
   have:=a0k (h.sub j (by omega)).1
   omega
  ·simp only [if_neg h1,if_neg h2] at e
   exact h.inj j k (by omega) (by omega) e
theorem Tb0.done (h:Tb0 H a b ids w n n) {q:Nat} {fr:Int} (hq:a04 H q = some (.row 1 [[.int .i64 fr]])) (hqa:q ≠ a) (hqb:q ≠ b) (hqi:∀ j,j < n → ids j ≠ q):Tbl H a b q ids w (List.replicate n (List.replicate w 0#64)) fr:=by
 refine ⟨by rw [List.length_replicate];exact h.out,?_,?_,hq,h.ab,Ne.symm hqa,Ne.symm hqb,fun j k hj hk=>by rw [List.length_replicate] at hj hk;exact h.inj j k hj hk⟩
 ·rw [List.length_replicate,h.top]
  congr 2
  refine List.map_congr_left fun j hj=>?_
  rw [if_pos (by simpa using hj)]
 ·intro j f hf
  rw [List.getElem?_replicate] at hf
  split at hf
  case isFalse=>cases hf
  rename_i hj
  cases hf
  obtain ⟨g1,g2,g3⟩:=h.sub j hj
  exact ⟨by rw [g1,List.map_replicate];rfl,g2,g3,hqi j hj,List.length_replicate⟩
end
theorem d46 {m:Nat} {keep:List Nat} {F:Frm} {H:a06} {P:Frm → a06 → Prop} (hm:m ≤ H.length) (S:List Nat) (h1:∀ b ∈ a0d ((a1j keep F).map (·.2)),b ∈ S) (h2:∀ b,b < m → a0v (a04 H b) = []) (h3:∀ b ∈ S,∀ c ∈ a0v (a04 H b),c ∈ S)
 (hc:(S.map fun b=>(a0v (a04 H b)).length).sum ≤ 100000) (hl:(a0d ((a1j keep F).map (·.2))).length ≤ 100)
 (hP:∀ (R:Nat → Prop) (π:Nat → Option Nat) (H1:a06),Gc m (a1j keep F) H R π H1 → m ≤ H1.length → P (b9d π (a1j keep F)) H1):∃ F1 H1,gcD m keep F H = some (F1,H1) ∧ P F1 H1:=by
 have hlow:((H.take m).flatMap a0v).length = 0:=by
  rw [c04 H m hm]
  have:∀ l:List Nat,(∀ c ∈ l,a0v (a04 H c) = []) → (l.map fun c=>(a0v (a04 H c)).length).sum = 0:=a9f
  exact this _ (fun c hc=>h2 c (by simpa using hc))
 obtain ⟨R,π,H1,g1,g2,g3⟩:=c7h (m:=m) (keep:=keep) (F:=F) (H:=H) hm S h1 (fun b hb c hc=>by rw [h2 b hb] at hc;simp at hc) h3 (by omega)
 exact ⟨_,H1,g1,hP R π H1 g2 g3⟩
end Go.Ax
/- AxTab5: a table's number in another cell; a table that is given back. -/
namespace Go.Ax
section
variable {H:a06} {a b q:Nat} {ids:Nat → Nat} {w:Nat} {fo:List (List (BitVec 64))} {fr:Int}
theorem Tbl.newq (h:Tbl H a b q ids w fo fr) (fr':Int):Tbl (H ++ [some (.row 1 [[.int .i64 fr']])]) a b H.length ids w fo fr':=by
 have hl:=h.lt
 have hne:∀ c ∈ Tbl.blocks a b q ids fo.length,c ≠ H.length:=fun c hc e=>by have:=hl c hc;omega
 have hm:=h.more (L:=[some (.row 1 [[.int .i64 fr']])])
 refine ⟨hm.out,hm.top,?_,a4q,h.ab,hne a (Tbl.mem_blocks.2 (.inl rfl)),hne b (Tbl.mem_blocks.2 (.inr (.inl rfl))),h.inj⟩
 intro j f hf
 obtain ⟨g1,g2,g3,g4,g5⟩:=hm.sub j f hf
 exact ⟨g1,g2,g3,hne _ (Tbl.mem_blocks.2 (.inr (.inr (.inr ⟨j,(List.getElem?_eq_some_iff.1 hf).1,rfl⟩)))),g5⟩
theorem Tb0.more {n i:Nat} {L:a06} (h:Tb0 H a b ids w n i):Tb0 (H ++ L) a b ids w n i:=by
 refine h.same fun c hc=>a55 (eq_true ?_)
 rcases hc with rfl|rfl|⟨j,hj,rfl⟩
 ·exact a0k h.out
 ·exact a0k h.top
 ·exact a0k (h.sub j hj).1
theorem Tb0.lt {n i:Nat} (h:Tb0 H a b ids w n i):a < H.length ∧ b < H.length ∧ ∀ j,j < i → ids j < H.length:=⟨a0k h.out,a0k h.top,fun j hj=>a0k (h.sub j hj).1⟩
theorem Tbl.other (h:Tbl H a b q ids w fo fr) {c k:Nat} {rows:List (List AV)} (hc:a04 H c = some (.row k rows)) (hk:k ≠ 1):c ∉ Tbl.blocks a b q ids fo.length:=by
 rw [Tbl.mem_blocks]
 rintro (rfl|rfl|rfl|⟨j,hj,rfl⟩)
 ·rw [h.out] at hc;cases hc;exact hk rfl
 ·rw [h.top] at hc;cases hc;exact hk rfl
 ·rw [h.frm] at hc;cases hc;exact hk rfl
 ·obtain ⟨f,hf⟩:∃ f,fo[j]? = some f:=⟨_,z9e hj⟩
  rw [(h.sub j f hf).1] at hc;cases hc;exact hk rfl
theorem c21 {m:Nat} {d:AV → Option AV}:∀ (rows:List (List AV)) (out:List (List AV)),rows.length = out.length → (∀ (j:Nat) r o,rows[j]? = some r → out[j]? = some o → a64 m false d r = some o) → a7m m d rows = some out
 | [],out,hl,_=>by cases out with|nil=>rfl|cons=>simp at hl
 | r :: rows,[],hl,_=>by simp at hl
 | r :: rows,o :: out,hl,hh=>by
  rw [a9w,hh 0 r o rfl rfl]
  simp only [a0j]
  rw [c21 rows out (by simpa using hl) (fun j r o hr ho=>hh (j + 1) r o (by simpa using hr) (by simpa using ho))]
theorem Tbl.frz (h:Tbl H a b q ids w fo fr) {m:Nat} (hb:m ≤ b) (hi:∀ j,j < fo.length → m ≤ ids j):a42 m true (a86 (a04 H) m 12) (.slice b 0 fo.length (some fo.length)) = some (.islice (fo.map fun f=>[.islice (f.map b3v) (some w)]) (some fo.length)):=by
 rw [a6s,decide_eq_false (by omega:¬ b < m),cond_false,a5c (eq_true (by omega:0 < 12)),h.top]
 simp only [a7t,a0j,List.length_map,List.length_range,List.drop_zero,Nat.zero_add]
 rw [decide_eq_true (Nat.le_refl _),cond_true,List.take_of_length_le (by simp)]
 rw [c21 _ (fo.map fun f=>[.islice (f.map b3v) (some w)]) (by simp)]
 intro j r o hr ho
 rw [List.getElem?_map] at ho hr
 cases hf:fo[j]? with
 | none=>rw [hf] at ho;cases ho
 | some f=>
  rw [hf] at ho
  have hj:j < fo.length:=(List.getElem?_eq_some_iff.1 hf).1
  rw [List.getElem?_range hj] at hr
  cases ho;cases hr
  obtain ⟨g1,_,_,_,g5⟩:=h.sub j f hf
  have:=hi j hj
  rw [a85,b6j,a6s,decide_eq_false (by omega:¬ ids j < m),cond_false,a5c (eq_true (by omega:0 < 11)),g1]
  simp only [a7t,a0j,List.drop_zero,Nat.zero_add,List.length_map]
  rw [decide_eq_true (by omega),cond_true,List.take_of_length_le (by simp;omega),a0s _ _ (b6m f)]
end
end Go.Ax
/- AxMapS: maps by keys that have an encoding; maps of growing slices of numbers. -/
namespace Go.Ax
section
variable {α:Type} [DecidableEq α] {E:Env} {t kt et:TypeId} {enc:α → AV}
end
/-! ### the values that a key has collected -/
end Go.Ax
