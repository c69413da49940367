/- AxHeap: calls on, and loops over, heaps of a few known blocks: what is reached, renamed and put back, ar rewrite rules. -/
import Derived.Test.YtlldffjabagdbaaGreatDoorAxD
set_option linter.unusedSimpArgs false
set_option linter.unusedVariables false
namespace Go.Ax
@[go_sem] theorem d9q (H:a03) (n:Nat) (acc:List Nat):a2n H n [] acc = acc.reverse:=by cases n<;>rfl
theorem c57 (H:a03) (n:Nat) (b:Nat) (todo acc:List Nat):a2n H (n + 1) (b :: todo) acc = bif a16 acc b then a2n H n todo acc else a2n H n (a15 (a01 H b) ++ todo) (b :: acc):=by rfl
@[go_sem] theorem d9r {n:Nat} (hn:(0 < n) = True) (H:a03) (b:Nat) (todo acc:List Nat):a2n H n (b :: todo) acc = bif a16 acc b then a2n H (n - 1) todo acc else a2n H (n - 1) (a15 (a01 H b) ++ todo) (b :: acc):=by
 obtain ⟨m,rfl⟩:∃ m,n = m + 1:=⟨n - 1,by have:=of_eq_true hn;omega⟩
 exact c57 H m b todo acc
@[go_sem] theorem d3o (x:Nat):a16 [] x = false:=by rfl
@[go_sem] theorem d13 (a:Nat) (r:List Nat) (x:Nat):a16 (a :: r) x = bif decide (a = x) then true else a16 r x:=by
 simp only [a16,d0z,c69]
@[go_sem] theorem d9v:a56 [] = true:=by rfl
@[go_sem] theorem c22 (a:Nat) (r:List Nat):a56 (a :: r) = (!(a16 r a) && a56 r):=by rfl
@[go_sem] theorem e1b (k:Nat) (rows:List (List AV)):a15 (some (.row k rows)) = rows.flatMap a0j:=by rfl
@[go_sem] theorem e66 (b:Nat):List.idxOf? b [] = none:=by rfl
@[go_sem] theorem e41 (a:Nat) (l:List Nat) (b:Nat):List.idxOf? b (a :: l) = bif decide (a = b) then some 0 else (List.idxOf? b l).map (·+ 1):=by
 rw [List.idxOf?_cons,c69]
 cases decide (a = b)<;>rfl
@[go_sem] theorem e5q (σ:List Nat) (b:Nat):a9o σ b = σ.idxOf? b:=by rfl
@[go_sem] theorem e2j (σ:List Nat) (n j:Nat):a1q σ n j = bif decide (j < σ.length) then σ[j]? else some (n + (j - σ.length)):=by
 simp only [a1q,c68]
@[go_sem] theorem d9l (H:a03) (π:Nat → Option Nat):a5j H [] π = []:=by rfl
@[go_sem] theorem d6f (H:a03) (b:Nat) (σ:List Nat) (π:Nat → Option Nat):a5j H (b :: σ) π = (a01 H b).map (a0p π) :: a5j H σ π:=by rfl
@[go_sem] theorem d54 (σ:List Nat) (n:Nat) (H1:a03) (b:Nat):a1f σ n H1 b [] = []:=by rfl
def c7m (σ:List Nat) (n:Nat) (H1:a03) (o:Option AObj):Option Nat → Option AObj
 | some j=>(a01 H1 j).map (a0p (a1q σ n))
 | none=>o
@[go_sem] theorem d6x (σ:List Nat) (n:Nat) (H1:a03) (o:Option AObj) (j:Nat):c7m σ n H1 o (some j) = (a01 H1 j).map (a0p (a1q σ n)):=by rfl
@[go_sem] theorem d6y (σ:List Nat) (n:Nat) (H1:a03) (o:Option AObj):c7m σ n H1 o none = o:=by rfl
@[go_sem] theorem d55 (σ:List Nat) (n:Nat) (H1:a03) (b:Nat) (o:Option AObj) (r:a03):a1f σ n H1 b (o :: r) = c7m σ n H1 o (σ.idxOf? b) :: a1f σ n H1 (b + 1) r:=by
 simp only [a1f]
 cases σ.idxOf? b<;>rfl
@[go_sem] theorem d9o (π:Nat → Option Nat) (k:Nat) (rows:List (List AV)):a0p π (.row k rows) = .row k (rows.map fun r=>r.map (ren π)):=by rfl
/- renaming a value -/
section
variable (π:Nat → Option Nat)
def e3j (f:Nat → AV):Option Nat → AV|some b=>f b|none=>.junk
@[go_sem] theorem e16 (f:Nat → AV) (b:Nat):e3j f (some b) = f b:=by rfl
@[go_sem] theorem e5l (b i o:Nat):ren π (.ptr b i o) = e3j (fun b=>.ptr b i o) (π b):=by simp only [ren];cases π b<;>rfl
@[go_sem] theorem e15 (b i o:Nat) (c:Option Nat):ren π (.slice b i o c) = e3j (fun b=>.slice b i o c) (π b):=by simp only [ren];cases π b<;>rfl
@[go_sem] theorem e5m (b:Nat):ren π (.map b) = e3j (fun b=>.map b) (π b):=by simp only [ren];cases π b<;>rfl
@[go_sem] theorem c7d (k:IntKind) (n:Int):ren π (.int k n) = .int k n:=by rfl
@[go_sem] theorem e3h (b:Bool):ren π (.bool b) = .bool b:=by rfl
@[go_sem] theorem e5k (s:List UInt8):ren π (.str s) = .str s:=by rfl
@[go_sem] theorem d9n (r:List (List AV)) (c:Option Nat):ren π (.islice r c) = .islice r c:=by rfl
@[go_sem] theorem e3g (r:List AV):ren π (.iptr r) = .iptr r:=by rfl
@[go_sem] theorem a8c:ren π .nilslice = .nilslice:=by rfl
@[go_sem] theorem e3f:ren π .junk = .junk:=by rfl
@[go_sem] theorem c1x (l:List AV):ren π (.agg l) = .agg (l.map (ren π)):=by simp only [ren,a8d]
@[go_sem] theorem d1v (f:Fn) (a b:List AV):ren π (.func f a b) = .func f (a.map (ren π)) (b.map (ren π)):=by simp only [ren,a8d]
@[go_sem] theorem e3i:b92 π [] = []:=by rfl
@[go_sem] theorem c7f (s:Nat) (v:AV) (r:Frm):b92 π ((s,v) :: r) = (s,ren π v) :: b92 π r:=by rfl
end
@[go_sem] theorem c93 (m:Nat) (σ:List Nat) (b:Nat):b8c m σ b = bif decide (b < m) then some b else (σ.idxOf? b).map (m + ·):=by
 simp only [b8c,c68]
theorem a02 {m:Nat} {keep:List Nat} {F:Frm} {H:a03}:gcD m keep F H = bif a56 (b1p m (a2e keep F) H) && (b1p m (a2e keep F) H).all (fun b=>decide (m ≤ b)) && decide (m ≤ H.length) then
 some (b92 (b8c m (b1p m (a2e keep F) H)) (a2e keep F),gcH m (b1p m (a2e keep F) H) H) else none:=by
 have e:(fun b=>Nat.ble m b) = fun b=>decide (m ≤ b):=funext fun b=>d16 m b
 simp only [gcD,e,d16]
theorem a00 (m:Nat) (F:Frm) (H:a03):b1p m F H = (a2n H 1000000 ((H.take m).flatMap a15 ++ a0j (F.map (·.2))) []).filter fun b=>decide (m ≤ b):=by
 have e:(fun b=>Nat.ble m b) = fun b=>decide (m ≤ b):=funext fun b=>d16 m b
 simp only [b1p,a55,e]
@[go_sem] theorem d5d (m:Nat) (σ:List Nat) (H:a03):gcH m σ H = (H.take m).map (Option.map (a0p (b8c m σ))) ++ a5j H σ (b8c m σ):=by rfl
@[go_sem] theorem e6s {α:Type} (p:α → Bool) (a:α) (l:List α):(a :: l).filter p = bif p a then a :: l.filter p else l.filter p:=by
 rw [List.filter_cons];cases p a<;>rfl
attribute [go_sem] List.reverse_cons List.reverse_nil List.filter_nil List.flatMap_cons List.flatMap_nil
theorem a5r (run:List AV → a03 → Option (AV × a03)) (args:List AV) (H:a03) {σ:List Nat} (hσ:a2n H 1000000 (a0j args) [] = σ) (hn:a56 σ = true) (hl:(σ.all fun b=>decide (b < H.length)) = true)
 {args':List AV} (ha:args.map (ren (a9o σ)) = args') {H0:a03} (hH:a5j H σ (a9o σ) = H0) {v:AV} {H1:a03} (hr:run args' H0 = some (v,H1)) :
 a2z run args H = some (ren (a1q σ H.length) v,a1f σ H.length H1 0 H ++ (H1.drop σ.length).map (Option.map (a0p (a1q σ H.length))),σ):=by
 have e:(fun b=>Nat.blt b H.length) = fun b=>decide (b < H.length):=funext fun b=>c68 b H.length
 unfold a2z
 simp only [a55,hσ,hn,e,hl,Bool.and_self,cond_true,ha,hH,hr]
theorem a9c {E:Env} {draw:Bool} {call:CallF} {g:FuncId} {fs cs ar args:List AV} {H:a03} (hx:E.ext g = false) (hf:(E.fn g).isSome = true) (he:fs ++ ar ++ cs = args) {v:AV} {H':a03} {σ:List Nat}
 (h:a2z (call g) args H = some (v,H',σ)) (hl:H'.length = H.length):a0g E draw call (.func (.func g) fs cs) ar H = some (v,H',σ):=by
 have hb:Nat.ble H.length H.length = true:=by rw [Nat.ble_eq];exact Nat.le_refl _
 simp only [a0g,hx,hf,he,cond_true,cond_false,h,hl,hb,Bool.not_true,Bool.and_false]
/- freezing -/
@[go_sem] theorem d77 {α β:Type} (a:α) (f:α → β) (d:β):d58 (some a) f d = f a:=by rfl
@[go_sem] theorem c0m {m:Nat} {v:AV} {H:a03}:a1j false m v H = d58 (a3f m true (a5c (a01 H) m 12) v) (fun v'=>some (v',(H.take m).map (Option.map (a0p (a1k m))))) (some (v,H)):=by
 simp only [a1j,cond_false]
 cases a3f m true (a5c (a01 H) m 12) v<;>rfl
section
variable {m:Nat} {top:Bool} {d:AV → Option AV} {h:FHeap} {n:Nat}
@[go_sem] theorem e6g (k:IntKind) (i:Int):a3f m top d (.int k i) = some (.int k i):=by rfl
@[go_sem] theorem e46 (b:Bool):a3f m top d (.bool b) = some (.bool b):=by rfl
@[go_sem] theorem e6f (s:List UInt8):a3f m top d (.str s) = some (.str s):=by rfl
@[go_sem] theorem c5t (r:List (List AV)) (c:Option Nat):a3f m top d (.islice r c) = some (.islice r c):=by rfl
@[go_sem] theorem c0i:a3f m top d .nilslice = some .nilslice:=by rfl
@[go_sem] theorem e20 (c:Option (Option Nat)) (rows:List (List AV)):a3f m top d (sl c rows) = some (sl c rows):=a62 m top d _ (a6o c rows)
@[go_sem] theorem e6e (x:BitVec 64):a3f m top d (u64 x) = some (u64 x):=by rfl
@[go_sem] theorem e6i (l:List AV):a3f m top d (.agg l) = a0h (a5h m top d l) fun l=>some (.agg l):=by simp only [a3f];cases a5h m top d l<;>rfl
@[go_sem] theorem c9a (l:List AV):a3f m top d (.tuple l) = a0h (a5h m top d l) fun l=>some (.tuple l):=by simp only [a3f];cases a5h m top d l<;>rfl
@[go_sem] theorem e45 (f:Fn) (a b:List AV):a3f m top d (.func f a b) = a0h (a5h m top d a) fun a=>a0h (a5h m top d b) fun b=>some (.func f a b):=by
 simp only [a3f];cases a5h m top d a<;>cases a5h m top d b<;>rfl
@[go_sem] theorem b8g:a5h m top d [] = some []:=by rfl
@[go_sem] theorem a74 (v:AV) (l:List AV):a5h m top d (v :: l) = a0h (a3f m top d v) fun v=>a0h (a5h m top d l) fun l=>some (v :: l):=by
 simp only [a5h];cases a3f m top d v<;>cases a5h m top d l<;>rfl
@[go_sem] theorem a8q (b o l:Nat) (c:Option Nat):a3f m top d (.slice b o l c) = bif decide (b < m) then (bif top then some (.slice b o l c) else none) else d (.slice b o l c):=by simp only [a3f,d37,c68]
@[go_sem] theorem c9b (b o l:Nat):a3f m top d (.ptr b o l) = bif decide (b < m) then (bif top then some (.ptr b o l) else none) else d (.ptr b o l):=by simp only [a3f,d37,c68]
@[go_sem] theorem c9c (b:Nat):a3f m top d (.map b) = bif decide (b < m) then (bif top then some (.map b) else none) else d (.map b):=by simp only [a3f,d37,c68]
@[go_sem] theorem a75 (hn:(0 < n) = True) (b o l:Nat) (c:Option Nat):a5c h m n (.slice b o l c) = a0h (b0w (h b)) fun kr=>bif decide (o + l ≤ kr.2.length) then a0h (a9a m (a5c h m (n - 1)) ((kr.2.drop o).take l)) fun rs=>some (.islice rs c) else none:=by
 obtain ⟨n,rfl⟩:∃ k,n = k + 1:=⟨n - 1,by have:=of_eq_true hn;omega⟩
 simp only [a5c,Nat.add_sub_cancel]
 cases hb:h b with
 | none=>simp only [hb];rfl
 | some ob=>
  cases ob<;>simp only [hb,b0w,a0h,d16]
  rename_i kk rows
  cases a9a m (a5c h m n) ((rows.drop o).take l)<;>rfl
@[go_sem] theorem d38 (hn:(0 < n) = True) (b i o:Nat):a5c h m n (.ptr b i o) = a0h (b0w (h b)) fun kr=>a0h (kr.2[i]?) fun r=>a0h (a5h m false (a5c h m (n - 1)) (r.drop o)) fun cs=>some (.iptr cs):=by
 obtain ⟨n,rfl⟩:∃ k,n = k + 1:=⟨n - 1,by have:=of_eq_true hn;omega⟩
 simp only [a5c,Nat.add_sub_cancel]
 cases hb:h b with
 | none=>simp only [hb];rfl
 | some ob=>
  cases ob<;>simp only [hb,b0w,a0h]
  rename_i kk rows
  cases rows[i]? with
  | none=>rfl
  | some r=>simp only;cases a5h m false (a5c h m n) (r.drop o)<;>rfl
theorem c40:a9a m d [] = some []:=by rfl
theorem b4q (r:List AV) (rs:List (List AV)):a9a m d (r :: rs) = a0h (a5h m false d r) fun r=>a0h (a9a m d rs) fun rs=>some (r :: rs):=by
 simp only [a9a];cases a5h m false d r<;>cases a9a m d rs<;>rfl
theorem a11 (a b:List (List AV)):a9a m d (a ++ b) = a0h (a9a m d a) fun a=>a0h (a9a m d b) fun b=>some (a ++ b):=by
 induction a with
 | nil=>simp only [List.nil_append,c40,a0h];cases a9a m d b<;>rfl
 | cons x a ih=>
  simp only [List.cons_append,b4q,ih]
  cases a5h m false d x with
  | none=>rfl
  | some x=>simp only [a0h];cases a9a m d a<;>cases a9a m d b<;>rfl
attribute [go_sem] c40 b4q
end
/-! ### append -/
section
variable {E:Env} {h:FHeap} {n:Nat}
@[go_sem] theorem d8q (k b o l:Nat) (c:Option Nat):a2j h k (.slice b o l c) = a0h (b0w (h b)) fun kr=>bif decide (kr.1 = k) && decide (o + l ≤ kr.2.length) then some ((kr.2.drop o).take l) else none:=by
 simp only [a2j]
 cases hb:h b with
 | none=>simp only [hb];rfl
 | some ob=>cases ob<;>simp only [hb,b0w,a0h,c69,d16]
def apT (E:Env) (st xt:TypeId):Option TypeId:=match E.und st,E.und xt with
 | some (.slice e),some dx=>bif a39 dx || !(E.zero e).isSome || !(Nat.blt 0 (E.sz e)) then none else some e
 | _,_=>none
def apS (E:Env) (h:FHeap) (n:Nat) (elem:TypeId) (xs:List (List AV)):AV → Option (AV × Eff)
 | .nilslice=>match xs with
  | []=>some (.nilslice,.none)
  | y :: ys=>bif a2s E elem (y :: ys).length then some (.slice n 0 (y :: ys).length none,.new (.row (E.sz elem) (y :: ys))) else none
 | .islice rows cap=>bif rows.all (fun r=>r.length == E.sz elem) then match xs with
  | []=>some (.islice rows cap,.none)
  | y :: ys=>match cap with
   | some c=>bif Nat.blt c (rows.length + (y :: ys).length) && a2s E elem (rows.length + (y :: ys).length) then
    some (.slice n 0 (rows.length + (y :: ys).length) none,.new (.row (E.sz elem) (rows ++ (y :: ys)))) else none
   | none=>none
  else none
 | .slice b off len cap=>match h b with
  | some (.row kk rows)=>bif kk == E.sz elem && Nat.ble (off + len) rows.length then
   match cap with
   | none=>bif a2s E elem (len + xs.length) && xs.all (fun r=>r.all AV.storable) then
    some (.slice n 0 (len + xs.length) none,.kill b (.row (E.sz elem) (bif Nat.beq (off + len) rows.length then rows.drop off ++ xs else (rows.drop off).take len ++ xs))) else none
   | some c=>bif Nat.ble (len + xs.length) c then
    bif Nat.ble (off + len + xs.length) rows.length && xs.all (fun r=>r.all AV.storable) then
     some (.slice b off (len + xs.length) (some c),.set b (.row (E.sz elem) (rows.take (off + len) ++ xs ++ rows.drop (off + len + xs.length)))) else none
    else bif a2s E elem (len + xs.length) then
     some (.slice n 0 (len + xs.length) none,.new (.row (E.sz elem) ((rows.drop off).take len ++ xs))) else none
   else none
  | _=>none
 | _=>none
@[go_sem] theorem e2s (st xt:TypeId) (s x:AV):a4i E h n st xt s x = a0h (apT E st xt) fun e=>a0h (a2j h (E.sz e) x) fun xs=>apS E h n e xs s:=by
 unfold a4i apT
 cases E.und st with
 | none=>rfl
 | some d=>cases E.und xt with
  | none=>cases d<;>rfl
  | some dx=>
   cases d<;>try rfl
   rename_i e
   simp only
   cases (a39 dx || !(E.zero e).isSome || !(Nat.blt 0 (E.sz e))) with
   | true=>rfl
   | false=>
    simp only [cond_false,a0h]
    cases a2j h (E.sz e) x with
    | none=>rfl
    | some xs=>cases s<;>rfl
@[go_sem] theorem e73 (e:TypeId) (y:List AV) (ys:List (List AV)):apS E h n e (y :: ys) .nilslice = bif a2s E e (y :: ys).length then some (.slice n 0 (y :: ys).length none,.new (.row (E.sz e) (y :: ys))) else none:=by rfl
@[go_sem] theorem e4k (e:TypeId) (xs:List (List AV)) (b o l:Nat):apS E h n e xs (.slice b o l none) = a0h (b0w (h b)) fun kr=>
 bif decide (kr.1 = E.sz e) then (bif decide (o + l = kr.2.length) then (bif a2s E e (l + xs.length) && xs.all (fun r=>r.all AV.storable) then some (.slice n 0 (l + xs.length) none,.kill b (.row (E.sz e) (kr.2.drop o ++ xs))) else none)
  else (bif decide (o + l ≤ kr.2.length) && a2s E e (l + xs.length) && xs.all (fun r=>r.all AV.storable) then some (.slice n 0 (l + xs.length) none,.kill b (.row (E.sz e) ((kr.2.drop o).take l ++ xs))) else none)) else none:=by
 simp only [apS]
 cases hb:h b with
 | none=>simp only [hb];rfl
 | some ob=>
  cases ob<;>simp only [hb,b0w,a0h,c69,d16]
  rename_i kk rows
  have e1:Nat.beq (o + l) rows.length = decide (o + l = rows.length):=by rw [d0z,c69]
  rw [e1]
  by_cases h1:o + l = rows.length
  ·rw [decide_eq_true h1,decide_eq_true (by omega:o + l ≤ rows.length)]
   cases decide (kk = E.sz e)<;>rfl
  ·rw [decide_eq_false h1]
   cases decide (kk = E.sz e)<;>cases decide (o + l ≤ rows.length)<;>rfl
@[go_sem] theorem e2p (e:TypeId) (xs:List (List AV)) (b o l c:Nat):apS E h n e xs (.slice b o l (some c)) = a0h (b0w (h b)) fun kr=>
 bif decide (kr.1 = E.sz e) && decide (o + l ≤ kr.2.length) then (bif decide (l + xs.length ≤ c) then
  (bif decide (o + l + xs.length ≤ kr.2.length) && xs.all (fun r=>r.all AV.storable) then some (.slice b o (l + xs.length) (some c),.set b (.row (E.sz e) (kr.2.take (o + l) ++ xs ++ kr.2.drop (o + l + xs.length)))) else none)
  else (bif a2s E e (l + xs.length) then some (.slice n 0 (l + xs.length) none,.new (.row (E.sz e) ((kr.2.drop o).take l ++ xs))) else none)) else none:=by
 simp only [apS]
 cases hb:h b with
 | none=>simp only [hb];rfl
 | some ob=>cases ob<;>simp only [hb,b0w,a0h,c69,d16]
theorem b18 {e:TypeId} {k:Nat} (hk:k ≤ 1000000000) (hb:E.bytes e ≤ 1000):a2s E e k = true:=by
 unfold a2s
 rw [decide_eq_true (by omega),Bool.true_and,decide_eq_true_eq]
 calc E.bytes e * (2 * k + 192) ≤ 1000 * (2 * 1000000000 + 192):=Nat.mul_le_mul hb (by omega)
  _ ≤ 281474976710656:=by decide
end
/- The length of a block's rows, by hand. -/
@[go_sem] theorem e31 (a b:Nat):(a:Int).tmod (b:Int) = ((a % b:Nat):Int):=by rfl
@[go_sem] theorem e7g (a:Nat):(a:Int).tmod 2 = ((a % 2:Nat):Int):=by rfl
@[go_sem] theorem e7f (a:Nat):(a:Int).tmod 3 = ((a % 3:Nat):Int):=by rfl
@[go_sem] theorem e7e (a:Nat):(a:Int).tmod 4 = ((a % 4:Nat):Int):=by rfl
@[go_sem] theorem e7d (a:Nat):(a:Int).tmod 9 = ((a % 9:Nat):Int):=by rfl
@[go_sem] theorem e5a (a:Nat):(a:Int).tmod 10 = ((a % 10:Nat):Int):=by rfl
@[go_sem] theorem e5b (a:Nat):(a:Int).tdiv 10 = ((a / 10:Nat):Int):=by rfl
@[go_sem] theorem e59 (a:Nat):(a:Int).tmod 13 = ((a % 13:Nat):Int):=by rfl
theorem wI {n:Nat} (h:n < 9223372036854775808):IntKind.i64.wrap (n:Int) = n:=w64 (by omega) (by omega)
theorem wB {n:Nat} (h:n < 256):IntKind.u8.wrap (n:Int) = n:=IntWalk.u8_in _ ⟨by omega,by omega⟩
theorem wI1 {n:Nat} (h:n < 9223372036854775807):IntKind.i64.wrap ((n:Int) + 1) = ((n + 1:Nat):Int):=by rw [w64 (by omega) (by omega)];rfl
theorem b65 (m b:Nat):a1k m b = bif decide (b < m) then some b else none:=by simp only [a1k,c68]
attribute [go_sem] b65
/-! ### bytes to a string -/
def byT (E:Env) (s d:TypeId):Bool:=match E.und s,E.und d with
 | some (.slice e),some .string=>match E.und e with|some (.int .u8)=>true|_=>false
 | _,_=>false
section
variable {E:Env} {h:FHeap} {s d:TypeId}
theorem c61 {x:AV} (hb:byT E s d = true) (hx:∀ t,x ≠ .str t):a67 E h s d x = a0h (a2j h 1 x) fun rows=>a0h (a6m rows) fun l=>some (.str l):=by
 unfold byT at hb
 cases hs:E.und s with
 | none=>rw [hs] at hb;cases hb
 | some ds=>
  cases hd:E.und d with
  | none=>rw [hs,hd] at hb;cases ds<;>cases hb
  | some dd=>
   rw [hs,hd] at hb
   cases ds<;>first|(cases hb;done)|skip
   rename_i e
   cases dd<;>first|(cases hb;done)|skip
   simp only at hb
   cases he:E.und e with
   | none=>rw [he] at hb;cases hb
   | some de=>
    rw [he] at hb
    cases de<;>first|(cases hb;done)|skip
    rename_i k
    cases k<;>first|(cases hb;done)|skip
    unfold a67
    simp only [hs,hd,he]
    cases x<;>first|(exact absurd rfl (hx _))|skip
    all_goals
     simp only [a0h]
     cases a2j h 1 _ with
     | none=>rfl
     | some rows=>simp only;cases a6m rows<;>rfl
@[go_sem] theorem d8g {b o l:Nat} {c:Option Nat} (hb:byT E s d = true):a67 E h s d (.slice b o l c) = a0h (a2j h 1 (.slice b o l c)) fun rows=>a0h (a6m rows) fun l=>some (.str l):=c61 hb (fun _ h=>by cases h)
@[go_sem] theorem e0i:a6m [] = some []:=by rfl
@[go_sem] theorem d96 (n:Int) (r:List (List AV)):a6m ([.int .u8 n] :: r) = a0h (a6m r) fun l=>some (UInt8.ofNat n.toNat :: l):=by
 simp only [a6m];cases a6m r<;>rfl
end
@[go_sem] theorem e48 {r:List AV} {n:Nat} (h:a0j r = []):(List.replicate n r).flatMap a0j = []:=a0n (FlatR.replicate h)
attribute [go_sem] List.length_replicate List.map_replicate List.length_append List.flatMap_append List.map_append
/-! ### calls that only read -/
def FlatO (o:Option AObj):Prop:=∀ π,o.map (a0p π) = o
theorem FlatO.row {k:Nat} {rows:List (List AV)} (h:FlatR rows):FlatO (some (.row k rows)):=fun π=>by
 simp only [Option.map_some,a0p,a0m π h]
theorem d0x (f:Nat → Option AObj) (σ:List Nat) (j:Nat):a01 (σ.map f) j = (σ[j]?).bind f:=by
 simp only [a01,List.getElem?_map]
 cases σ[j]?<;>simp
theorem b27 {σ:List Nat} {n:Nat} {H:a03} (hf:∀ b ∈ σ,FlatO (a01 H b)):∀ (b:Nat) (H2:a03),(∀ i,H2[i]? = H[b + i]?) → a1f σ n (σ.map (a01 H)) b H2 = H2
 | _,[],_=>rfl
 | b,o :: r,hh=>by
  have ih:=b27 hf (n:=n) (b + 1) r (fun i=>by
   have:=hh (i + 1)
   rw [List.getElem?_cons_succ] at this
   rw [this]
   congr 1
   omega)
  simp only [a1f,ih]
  congr 1
  cases hx:σ.idxOf? b with
  | none=>rfl
  | some j=>
   simp only
   have hj:=a2a hx
   have hm:b ∈ σ:=List.mem_of_getElem? hj
   rw [d0x,hj]
   simp only [Option.bind_some]
   rw [hf b hm _]
   have h0:=hh 0
   simp only [List.getElem?_cons_zero,Nat.add_zero] at h0
   simp [a01,← h0]
theorem b6y {E:Env} {draw:Bool} {call:CallF} {g:FuncId} {fs cs ar args:List AV} {H:a03} {v:AV} (σ:List Nat) (hx:E.ext g = false) (hf:(E.fn g).isSome = true) (he:fs ++ ar ++ cs = args)
 (hσ:a2n H 1000000 (a0j args) [] = σ) (hn:a56 σ = true) (hl:(σ.all fun b=>decide (b < H.length)) = true) (hfl:∀ b ∈ σ,FlatO (a01 H b))
 {args':List AV} (ha:args.map (ren (a9o σ)) = args') {H0:a03} (hH:σ.map (a01 H) = H0) (hr:call g args' H0 = some (v,H0)) (hv:refs v = []) :
 a0g E draw call (.func (.func g) fs cs) ar H = some (v,H,σ):=by
 have hs:a5j H σ (a9o σ) = H0:=by
  rw [← hH]
  unfold a5j
  exact List.map_congr_left fun b hb=>hfl b hb _
 have hc:=a5r (call g) args H hσ hn hl ha hs hr
 have e1:ren (a1q σ H.length) v = v:=a2m _ v hv
 have e2:a1f σ H.length H0 0 H = H:=by
  rw [← hH];exact b27 hfl 0 H (fun i=>by rw [Nat.zero_add])
 have e3:H0.drop σ.length = []:=by rw [← hH];simp
 rw [e1,e2,e3,List.map_nil,List.append_nil] at hc
 exact a9c hx hf he hc rfl
end Go.Ax
/- AxMore: facts that all say 'true'; loops over any states; what a heap's values a2n. -/
namespace Go.Ax
/-! ### what is reached -/
theorem b9b {f:Nat → Nat}:∀ {L:List Nat} {b:Nat},b ∈ L → (L.map f).sum = f b + ((L.erase b).map f).sum
 | [],b,h=>by simp at h
 | a :: L,b,h=>by
  by_cases hab:a = b
  ·subst hab;simp
  ·have hb:b ∈ L:=by simpa [Ne.symm hab] using h
   rw [List.erase_cons_tail (by simpa using hab)]
   simp only [List.map_cons,List.sum_cons,b9b hb]
   omega
structure Reached (H:a03) (init σ:List Nat):Prop where
 nodup:σ.Nodup
 start:∀ b ∈ init,b ∈ σ
 closed:∀ b ∈ σ,∀ c ∈ a15 (a01 H b),c ∈ σ
 least:∀ T:Nat → Prop,(∀ b ∈ init,T b) → (∀ b,T b → ∀ c ∈ a15 (a01 H b),T c) → ∀ b ∈ σ,T b
theorem b7n (H:a03):∀ (n:Nat) (todo acc L:List Nat),acc.Nodup → (∀ b ∈ acc,∀ c ∈ a15 (a01 H b),c ∈ acc ∨ c ∈ todo) → (∀ b ∈ todo,b ∈ acc ∨ b ∈ L) → (∀ b ∈ L,∀ c ∈ a15 (a01 H b),c ∈ acc ∨ c ∈ L) →
 todo.length + (L.map fun b=>(a15 (a01 H b)).length).sum < n →
 (a2n H n todo acc).Nodup ∧ (∀ b ∈ acc,b ∈ a2n H n todo acc) ∧ (∀ b ∈ todo,b ∈ a2n H n todo acc) ∧ (∀ b ∈ a2n H n todo acc,∀ c ∈ a15 (a01 H b),c ∈ a2n H n todo acc) ∧
 ∀ T:Nat → Prop,(∀ b ∈ acc,T b) → (∀ b ∈ todo,T b) → (∀ b,T b → ∀ c ∈ a15 (a01 H b),T c) → ∀ b ∈ a2n H n todo acc,T b
 | 0,todo,acc,L,_,_,_,_,hn=>by omega
 | n + 1,[],acc,L,h1,h2,h3,h4,hn=>by
  unfold a2n
  refine ⟨List.pairwise_reverse.2 (h1.imp fun h=>Ne.symm h),by simp,by simp,?_,?_⟩
  ·intro b hb c hc
   rcases h2 b (by simpa using hb) c hc with h|h
   ·simpa using h
   ·simp at h
  ·intro T t1 t2 t3 b hb;exact t1 b (by simpa using hb)
 | n + 1,b :: todo,acc,L,h1,h2,h3,h4,hn=>by
  unfold a2n
  cases hc:a16 acc b with
  | true=>
   have hb:b ∈ acc:=a2r.1 hc
   simp only [cond_true]
   obtain ⟨r1,r2,r3,r4,r5⟩:=b7n H n todo acc L h1 (fun x hx c hcc=>by
    rcases h2 x hx c hcc with h|h
    ·exact .inl h
    ·simp only [List.mem_cons] at h
     rcases h with rfl|h
     ·exact .inl hb
     ·exact .inr h) (fun x hx=>h3 x (by simp [hx])) h4 (by simp only [List.length_cons] at hn;omega)
   refine ⟨r1,r2,?_,r4,?_⟩
   ·intro x hx
    simp only [List.mem_cons] at hx
    rcases hx with rfl|hx
    ·exact r2 _ hb
    ·exact r3 x hx
   ·intro T t1 t2 t3;exact r5 T t1 (fun x hx=>t2 x (by simp [hx])) t3
  | false=>
   have hb:b ∉ acc:=fun h=>by rw [a2r.2 h] at hc;cases hc
   simp only [cond_false]
   have hbL:b ∈ L:=(h3 b (by simp)).resolve_left hb
   have hs:=b9b (f:=fun b=>(a15 (a01 H b)).length) hbL
   obtain ⟨r1,r2,r3,r4,r5⟩:=b7n H n (a15 (a01 H b) ++ todo) (b :: acc) (L.erase b) (List.nodup_cons.2 ⟨hb,h1⟩) (fun x hx c hcc=>by
    simp only [List.mem_cons] at hx ⊢
    rcases hx with rfl|hx
    ·exact .inr (by simp [hcc])
    ·rcases h2 x hx c hcc with h|h
     ·exact .inl (.inr h)
     ·simp only [List.mem_cons] at h
      rcases h with rfl|h
      ·exact .inl (.inl rfl)
      ·exact .inr (by simp [h])) (fun x hx=>by
    have hx':x ∈ acc ∨ x ∈ L:=by
     rw [List.mem_append] at hx
     rcases hx with hx|hx
     ·exact h4 b hbL x hx
     ·exact h3 x (by simp [hx])
    by_cases hxb:x = b
    ·exact .inl (by simp [hxb])
    ·rcases hx' with h|h
     ·exact .inl (by simp [h])
     ·exact .inr ((List.mem_erase_of_ne hxb).2 h)) (fun x hx c hcc=>by
    have:=h4 x (List.mem_of_mem_erase hx) c hcc
    by_cases hxb:c = b
    ·exact .inl (by simp [hxb])
    ·rcases this with h|h
     ·exact .inl (by simp [h])
     ·exact .inr ((List.mem_erase_of_ne hxb).2 h)) (by
    simp only [List.length_cons] at hn
    rw [hs] at hn
    simp only [List.length_append]
    omega)
   refine ⟨r1,fun x hx=>r2 x (by simp [hx]),?_,r4,?_⟩
   ·intro x hx
    simp only [List.mem_cons] at hx
    rcases hx with rfl|hx
    ·exact r2 _ (by simp)
    ·exact r3 x (by simp [hx])
   ·intro T t1 t2 t3
    refine r5 T ?_ ?_ t3
    ·intro x hx
     simp only [List.mem_cons] at hx
     rcases hx with rfl|hx
     ·exact t2 _ (by simp)
     ·exact t1 x hx
    ·intro x hx
     rw [List.mem_append] at hx
     rcases hx with hx|hx
     ·exact t3 b (t2 b (by simp)) x hx
     ·exact t2 x (by simp [hx])
theorem c56 {H:a03} {init:List Nat} (S:List Nat) (h1:∀ b ∈ init,b ∈ S) (h2:∀ b ∈ S,∀ c ∈ a15 (a01 H b),c ∈ S)
 (hn:init.length + (S.map fun b=>(a15 (a01 H b)).length).sum < 1000000):Reached H init (a2n H 1000000 init []):=by
 obtain ⟨r1,_,r3,r4,r5⟩:=b7n H 1000000 init [] S List.nodup_nil (fun b hb=>by simp at hb) (fun b hb=>.inr (h1 b hb)) (fun b hb c hc=>.inr (h2 b hb c hc)) hn
 exact ⟨r1,r3,r4,fun T t1 t2=>r5 T (fun b hb=>by simp at hb) t1 t2⟩
theorem b3y:∀ {l:List Nat},l.Nodup → a56 l = true
 | [],_=>rfl
 | a :: l,h=>by
  rw [List.nodup_cons] at h
  have hc:a16 l a = false:=by
   cases hc:a16 l a with
   | false=>rfl
   | true=>exact absurd (a2r.1 hc) h.1
  rw [c22,hc,b3y h.2];rfl
structure Gc (m:Nat) (F:Frm) (H:a03) (R:Nat → Prop) (π:Nat → Option Nat) (H1:a03):Prop where
 low:∀ b,b < m → π b = some b
 inj:∀ a b c,π a = some c → π b = some c → a = b
 refs:∀ b ∈ a0j (F.map (·.2)),R b
 lows:∀ b,b < m → ∀ c ∈ a15 (a01 H b),R c
 closed:∀ b,R b → ∀ c ∈ a15 (a01 H b),R c
 least:∀ T:Nat → Prop,(∀ b ∈ a0j (F.map (·.2)),T b) → (∀ b,b < m → ∀ c ∈ a15 (a01 H b),T c) → (∀ b,T b → ∀ c ∈ a15 (a01 H b),T c) → ∀ b,R b → T b
 here:∀ b,R b → ∃ c,π b = some c
 heap:∀ b c,π b = some c → a01 H1 c = (a01 H b).map (a0p π)
 len:∀ T:List Nat,(∀ b,R b → m ≤ b → b ∈ T) → H1.length ≤ m + T.length
theorem b84 {m:Nat} {H:a03} {c:Nat}:c ∈ (H.take m).flatMap a15 ↔ ∃ b,b < m ∧ c ∈ a15 (a01 H b):=by
 simp only [List.mem_flatMap]
 constructor
 ·rintro ⟨o,ho,hc⟩
  obtain ⟨b,hb⟩:=List.mem_iff_getElem?.1 ho
  rw [List.getElem?_take] at hb
  split at hb
  case isFalse=>cases hb
  rename_i hlt
  refine ⟨b,hlt,?_⟩
  simp only [a01,hb,Option.join_some]
  exact hc
 ·rintro ⟨b,hlt,hc⟩
  cases hb:H[b]? with
  | none=>simp [a01,hb,a15] at hc
  | some o=>
   refine ⟨o,List.mem_iff_getElem?.2 ⟨b,by rw [List.getElem?_take,if_pos hlt,hb]⟩,?_⟩
   simpa [a01,hb] using hc
theorem b4c:∀ {l T:List Nat},l.Nodup → (∀ b ∈ l,b ∈ T) → l.length ≤ T.length
 | [],_,_,_=>by simp
 | a :: l,T,hnd,hsub=>by
  rw [List.nodup_cons] at hnd
  have ha:a ∈ T:=hsub a (by simp)
  have:=b4c (l:=l) (T:=T.erase a) hnd.2 (fun b hb=>(List.mem_erase_of_ne (fun e=>hnd.1 (by rw [← e];exact hb))).2 (hsub b (by simp [hb])))
  rw [List.length_erase_of_mem ha] at this
  have:0 < T.length:=List.length_pos_of_mem ha
  simp only [List.length_cons];omega
theorem c92 {m:Nat} {keep:List Nat} {F:Frm} {H:a03} (hm:m ≤ H.length) (S:List Nat) (h1:∀ b ∈ a0j ((a2e keep F).map (·.2)),b ∈ S) (h2:∀ b,b < m → ∀ c ∈ a15 (a01 H b),c ∈ S) (h3:∀ b ∈ S,∀ c ∈ a15 (a01 H b),c ∈ S)
 (hn:((H.take m).flatMap a15).length + (a0j ((a2e keep F).map (·.2))).length + (S.map fun b=>(a15 (a01 H b)).length).sum < 1000000) :
 ∃ (R:Nat → Prop) (π:Nat → Option Nat) (H1:a03),gcD m keep F H = some (b92 π (a2e keep F),H1) ∧ Gc m (a2e keep F) H R π H1 ∧ m ≤ H1.length:=by
 have hr:=c56 (H:=H) (init:=(H.take m).flatMap a15 ++ a0j ((a2e keep F).map (·.2))) S (fun b hb=>by
  rw [List.mem_append] at hb
  rcases hb with hb|hb
  ·obtain ⟨a,ha,hc⟩:=b84.1 hb;exact h2 a ha b hc
  ·exact h1 b hb) h3 (by rw [List.length_append];exact hn)
 generalize hρ:a2n H 1000000 ((H.take m).flatMap a15 ++ a0j ((a2e keep F).map (·.2))) [] = ρ at hr
 have hσ:b1p m (a2e keep F) H = ρ.filter fun b=>decide (m ≤ b):=by rw [a00,hρ]
 have hnd:(ρ.filter fun b=>decide (m ≤ b)).Nodup:=hr.nodup.filter _
 have hmem:∀ b,b ∈ (ρ.filter fun b=>decide (m ≤ b)) ↔ b ∈ ρ ∧ m ≤ b:=fun b=>by rw [List.mem_filter];simp
 have hml:(H.take m).length = m:=by simp;omega
 have hlen:(gcH m (ρ.filter fun b=>decide (m ≤ b)) H).length = m + (ρ.filter fun b=>decide (m ≤ b)).length:=by
  rw [d5d];simp [a5j];omega
 refine ⟨(·∈ ρ),b8c m (ρ.filter fun b=>decide (m ≤ b)),gcH m (ρ.filter fun b=>decide (m ≤ b)) H,?_,?_,by rw [hlen];omega⟩
 ·rw [a02,hσ,b3y hnd,decide_eq_true hm]
  have:(ρ.filter fun b=>decide (m ≤ b)).all (fun b=>decide (m ≤ b)) = true:=by
   rw [List.all_eq_true];intro b hb;simpa using ((hmem b).1 hb).2
  rw [this];rfl
 ·have hπ:∀ b,b8c m (ρ.filter fun b=>decide (m ≤ b)) b = if b < m then some b else ((ρ.filter fun b=>decide (m ≤ b)).idxOf? b).map (m + ·):=by
   intro b;rw [c93];by_cases h:b < m<;>simp [h]
  refine ⟨fun b hb=>by rw [hπ,if_pos hb],?_,fun b hb=>hr.start b (by simp [hb]),fun b hb c hc=>hr.start c (by rw [List.mem_append];exact .inl (b84.2 ⟨b,hb,hc⟩)),fun b hb c hc=>hr.closed b hb c hc,?_,?_,?_,?_⟩
  ·intro a b c ha hb
   rw [hπ] at ha hb
   split at ha<;>split at hb
   ·cases ha;cases hb;rfl
   ·cases ha;obtain ⟨j,hj,e⟩:=a05 hb;omega
   ·cases hb;obtain ⟨j,hj,e⟩:=a05 ha;omega
   ·obtain ⟨i,hi,e1⟩:=a05 ha
    obtain ⟨j,hj,e2⟩:=a05 hb
    have g1:=a2a hi
    have g2:=a2a hj
    obtain rfl:i = j:=by omega
    rw [g1] at g2;exact z9o g2
  ·intro T t1 t2 t3 b hb
   refine hr.least T (fun x hx=>?_) t3 b hb
   rw [List.mem_append] at hx
   rcases hx with hx|hx
   ·obtain ⟨a,ha,hc⟩:=b84.1 hx;exact t2 a ha x hc
   ·exact t1 x hx
  ·intro b hb
   rw [hπ]
   split
   ·exact ⟨_,rfl⟩
   ·rename_i h
    have hbf:=(hmem b).2 ⟨hb,by omega⟩
    obtain ⟨j,hj⟩:=List.mem_iff_getElem?.1 hbf
    rw [a8m hnd hj]
    exact ⟨_,rfl⟩
  ·intro b c hbc
   have hbc':=hbc
   rw [hπ] at hbc'
   rw [d5d]
   split at hbc'
   ·rename_i h
    cases hbc'
    simp only [a01]
    rw [List.getElem?_append_left (by simp;omega),List.getElem?_map,List.getElem?_take,if_pos h]
    cases H[b]? with
    | none=>rfl
    | some o=>rfl
   ·rename_i h
    obtain ⟨j,hj,rfl⟩:=a05 hbc'
    have hg:=a2a hj
    simp only [a01]
    rw [List.getElem?_append_right (by simp only [List.length_map,hml];omega)]
    simp only [List.length_map,hml,Nat.add_sub_cancel_left,a5j,List.getElem?_map,hg,Option.map_some,Option.join_some]
    rfl
  ·intro T hT
   rw [hlen]
   have:(ρ.filter fun b=>decide (m ≤ b)).length ≤ T.length:=by
    have hsub:∀ b ∈ (ρ.filter fun b=>decide (m ≤ b)),b ∈ T:=fun b hb=>hT b ((hmem b).1 hb).1 ((hmem b).1 hb).2
    exact b4c hnd hsub
   omega
end Go.Ax
/- AxGrow: grown slices; calls that read one block. -/
namespace Go.Ax
def grV (b:Nat):List (List AV) → AV|[]=>.nilslice|_ :: rs=>.slice b 0 (rs.length + 1) none
def grH (k:Nat):List (List AV) → a03|[]=>[]|r :: rs=>[some (.row k (r :: rs))]
theorem a0q (b:Nat):grV b [] = .nilslice:=by rfl
theorem a0r (k:Nat):grH k [] = []:=by rfl
theorem a0d (b:Nat) (r:List AV) (rs:List (List AV)):grV b (r :: rs) = .slice b 0 (rs.length + 1) none:=by rfl
theorem a0e (k:Nat) (r:List AV) (rs:List (List AV)):grH k (r :: rs) = [some (.row k (r :: rs))]:=by rfl
theorem b0h (b:Nat) (l:List (List AV)) (x:List AV):grV b (l ++ [x]) = .slice b 0 (l.length + 1) none:=by cases l<;>simp [grV]
theorem b30 (k:Nat) (l:List (List AV)) (x:List AV):grH k (l ++ [x]) = [some (.row k (l ++ [x]))]:=by cases l<;>simp [grH]
theorem a6h (b:Nat) {l:List (List AV)} (h:l ≠ []):grV b l = .slice b 0 l.length none:=by cases l with|nil=>exact absurd rfl h|cons a r=>rfl
theorem a6i (k:Nat) {l:List (List AV)} (h:l ≠ []):grH k l = [some (.row k l)]:=by cases l with|nil=>exact absurd rfl h|cons a r=>rfl
theorem b9n {H:a03} {b:Nat} (hr:a15 (a01 H b) = []):a2n H 1000000 [b] [] = [b]:=by
 have e1:∀ n,a2n H (n + 2) [b] [] = [b]:=by
  intro n
  unfold a2n
  simp only [a16,cond_false,hr,List.append_nil]
  unfold a2n
  rfl
 exact e1 999998
theorem a2b {E:Env} {draw:Bool} {call:CallF} {g:FuncId} {fs cs ar args:List AV} {H:a03} {v:AV} {b:Nat} {o:AObj} (hx:E.ext g = false) (hf:(E.fn g).isSome = true) (he:fs ++ ar ++ cs = args)
 (hb:a01 H b = some o) (ho:a15 (some o) = []) (hfl:FlatO (some o)) (hargs:a0j args = [b]) {args':List AV} (ha:args.map (ren (a9o [b])) = args') (hr:call g args' [some o] = some (v,[some o])) (hv:refs v = []) :
 a0g E draw call (.func (.func g) fs cs) ar H = some (v,H,[b]):=by
 have hlt:b < H.length:=by
  unfold a01 at hb
  cases hh:H[b]? with
  | none=>rw [hh] at hb;cases hb
  | some x=>exact (List.getElem?_eq_some_iff.1 hh).1
 refine b6y [b] hx hf he (by rw [hargs];exact b9n (by rw [hb];exact ho)) rfl (by simpa using hlt) ?_ ha (by simp only [List.map_cons,List.map_nil,hb]) hr hv
 intro c hc
 simp only [List.mem_singleton] at hc
 subst hc;rw [hb];exact hfl
theorem a0s {k:Nat} {rows:List (List AV)} (h:FlatR rows):a15 (some (.row k rows)) = []:=by
 simp only [a15];exact a0n h
theorem a0z {H:a03} {b:Nat} {o:AObj} (hb:a01 H b = some o):b < H.length:=by
 unfold a01 at hb
 cases hh:H[b]? with
 | none=>rw [hh] at hb;cases hb
 | some x=>exact (List.getElem?_eq_some_iff.1 hh).1
theorem a8y {H:a03} {b:Nat} {o:AObj} (hb:a01 H b = some o):H.set b (some o) = H:=by
 have hlt:=a0z hb
 unfold a01 at hb
 rw [z9e hlt] at hb
 simp only [Option.join_some] at hb
 rw [← hb];exact List.set_getElem_self hlt
theorem b3o (b n:Nat) (o:Option AObj) (ho:∀ π,o.map (a0p π) = o):∀ (s:Nat) (H:a03),s ≤ b → a1f [b] n [o] s H = H.set (b - s) o
 | s,[],_=>by simp [a1f]
 | s,x :: H,hs=>by
  simp only [a1f]
  by_cases hsb:s = b
  ·subst hsb
   have e:([s]:List Nat).idxOf? s = some 0:=by simp [List.idxOf?_cons]
   have hrest:∀ (t:Nat) (H:a03),s < t → a1f [s] n [o] t H = H:=by
    intro t H
    induction H generalizing t with
    | nil=>intro _;rfl
    | cons y H ih=>
     intro ht
     have e2:([s]:List Nat).idxOf? t = none:=by simp [List.idxOf?_cons];omega
     simp only [a1f,e2,ih (t + 1) (by omega)]
   simp only [e,hrest (s + 1) H (by omega),Nat.sub_self,List.set_cons_zero]
   congr 1
   exact ho _
  ·have e:([b]:List Nat).idxOf? s = none:=by simp [List.idxOf?_cons];omega
   have e2:b - s = (b - (s + 1)) + 1:=by omega
   rw [e2,List.set_cons_succ]
   simp only [e,b3o b n o ho (s + 1) H (by omega)]
theorem a4u {E:Env} {draw:Bool} {call:CallF} {g:FuncId} {fs cs ar args:List AV} {H:a03} {v v':AV} {b:Nat} {o o':AObj} (hx:E.ext g = false) (hf:(E.fn g).isSome = true) (he:fs ++ ar ++ cs = args)
 (hb:a01 H b = some o) (ho:a15 (some o) = []) (hfl:FlatO (some o)) (hargs:a0j args = [b]) {args':List AV} (ha:args.map (ren (a9o [b])) = args') (hr:call g args' [some o] = some (v,[some o'])) (hfl':FlatO (some o')) (hv:ren (a1q [b] H.length) v = v') :
 a0g E draw call (.func (.func g) fs cs) ar H = some (v',H.set b (some o'),[b]):=by
 have hlt:=a0z hb
 have hc:=a5r (call g) args H (σ:=[b]) (by rw [hargs];exact b9n (by rw [hb];exact ho)) rfl (by simpa using hlt) ha (H0:=[some o]) (by simp only [a5j,List.map_cons,List.map_nil,hb];congr 1;exact hfl _) hr
 rw [hv,b3o b _ _ hfl' 0 H (Nat.zero_le _)] at hc
 simp only [Nat.sub_zero,List.drop_succ_cons,List.drop_zero,List.map_nil,List.append_nil,List.length_cons,List.length_nil] at hc
 exact a9c hx hf he hc (by simp)
theorem a20 (b o l:Nat) (c:Option Nat):ren (a9o [b]) (.slice b o l c) = .slice 0 o l c:=by simp [ren,a9o]
theorem a9y (b o n l:Nat) (c:Option Nat):ren (a1q [b] n) (.slice 0 o l c) = .slice b o l c:=by rfl
/-! ### slices of slices -/
def inB (i:Int) (n:Nat):Bool:=decide (0 ≤ i) && decide (i ≤ (n:Int))
@[go_sem] theorem e65 (a n:Nat):inB (a:Int) n = decide (a ≤ n):=by
 unfold inB
 rw [decide_eq_true (by omega),Bool.true_and,Bool.eq_iff_iff,decide_eq_true_eq,decide_eq_true_eq]
 omega
@[go_sem] theorem f0g (n:Nat):inB 0 n = true:=by simp [inB]
theorem b8z {k:IntKind} {i:Int} {n d:Nat}:a12 (some (.int k i)) n d = bif inB i n then some i.toNat else none:=by rfl
attribute [go_sem] Option.map_some Option.map_none
section
variable {E:Env} {h:FHeap} {t:TypeId}
theorem b8r {x:AV} {lo hi mx:Option AV} (hs:slT E t = none) (hx:∀ s,x ≠ .str s):a3z E h t x lo hi mx = none:=by
 unfold a3z
 unfold slT at hs
 cases hu:E.und t with
 | none=>rfl
 | some d=>
  rw [hu] at hs
  cases d<;>first|(cases hs;done)|(cases x<;>first|rfl|exact absurd rfl (hx _))
@[go_sem] theorem d8o {k k':IntKind} {i j:Int}:a3z E h t .nilslice none (some (.int k i)) (some (.int k' j)) = a0h (slT E t) fun e=>bif isT E e && inB j 0 && inB i j.toNat then some .nilslice else none:=by
 cases hs:slT E t with
 | none=>exact b8r hs (fun _ h=>by cases h)
 | some e=>
  simp only [a3z,a3r.1 hs,a0h,b8z,isT]
  cases (E.und e).isSome<;>cases inB j 0<;>first|rfl|(simp only [cond_true,Bool.true_and];cases inB i j.toNat<;>rfl)
@[go_sem] theorem e0c {b o n:Nat} {c:Option Nat} {k k':IntKind} {i j:Int}:a3z E h t (.slice b o n c) none (some (.int k i)) (some (.int k' j)) = a0h (slT E t) fun e=>a0h (b0w (h b)) fun kr=>bif isT E e && decide (kr.1 = E.sz e) && inB j (a1b n c) && inB i j.toNat then some (.slice b o i.toNat (some j.toNat)) else none:=by
 cases hs:slT E t with
 | none=>exact b8r hs (fun _ h=>by cases h)
 | some e=>
  simp only [a3z,a3r.1 hs,a0h,b8z,isT]
  cases hb:h b with
  | none=>cases (E.und e).isSome<;>rfl
  | some ob=>cases ob with
   | map=>cases (E.und e).isSome<;>rfl
   | siter=>cases (E.und e).isSome<;>rfl
   | uset=>cases (E.und e).isSome<;>rfl
   | miter=>cases (E.und e).isSome<;>rfl
   | yloop=>cases (E.und e).isSome<;>rfl
   | row kk rows=>
    simp only [b0w,c69]
    cases (E.und e).isSome<;>cases decide (kk = E.sz e)<;>cases inB j (a1b n c)<;>first|rfl|(simp only [cond_true,Bool.true_and];cases inB i j.toNat<;>rfl)
@[go_sem] theorem e0b {b o n:Nat} {c:Option Nat} {k:IntKind} {j:Int}:a3z E h t (.slice b o n c) none (some (.int k j)) none = a0h (slT E t) fun e=>a0h (b0w (h b)) fun kr=>bif isT E e && decide (kr.1 = E.sz e) && inB j (a1b n c) then some (.slice b o j.toNat c) else none:=by
 cases hs:slT E t with
 | none=>exact b8r hs (fun _ h=>by cases h)
 | some e=>
  have hc:c.map (fun x=>x - 0) = c:=by cases c<;>rfl
  simp only [a3z,a3r.1 hs,a0h,b8z,isT]
  cases hb:h b with
  | none=>cases (E.und e).isSome<;>rfl
  | some ob=>cases ob with
   | map=>cases (E.und e).isSome<;>rfl
   | siter=>cases (E.und e).isSome<;>rfl
   | uset=>cases (E.und e).isSome<;>rfl
   | miter=>cases (E.und e).isSome<;>rfl
   | yloop=>cases (E.und e).isSome<;>rfl
   | row kk rows=>
    simp only [b0w,c69]
    have e0:∀ m,a12 (none:Option AV) m 0 = some 0:=fun _=>rfl
    cases (E.und e).isSome<;>cases decide (kk = E.sz e)<;>cases inB j (a1b n c)<;>first|rfl|(simp only [cond_true,Bool.true_and,e0,hc];rfl)
end
attribute [go_sem] Nat.le_refl Int.toNat_natCast
@[go_sem] theorem b9a {α β:Type} (f:α → β) (l:List α):(l.map f).take l.length = l.map f:=by rw [← List.length_map (f:=f),List.take_length]
attribute [go_sem] List.take_length
@[go_sem] theorem d03 (n c:Nat):a1b n (some c) = c:=by rfl
@[go_sem] theorem d04 (n:Nat):a1b n none = n:=by rfl
end Go.Ax
/- AxTwo: slices of slices that grow: one block of rows, a block for each that is not empty. -/
namespace Go.Ax
theorem a3q {H L:a03} {c:Nat} (h:(c < H.length) = True):a01 (H ++ L) c = a01 H c:=by
 unfold a01;rw [List.getElem?_append_left (of_eq_true h)]
theorem a5m {H L:a03} (i:Nat):a01 (H ++ L) (H.length + i) = a01 L i:=by
 unfold a01;rw [List.getElem?_append_right (by omega)];congr 1;rw [Nat.add_sub_cancel_left]
theorem a5a {H L:a03}:a01 (H ++ L) H.length = a01 L 0:=a5m 0
theorem b4l {H:a03} {a c:Nat} {o:Option AObj}:a01 (H.set a o) c = if a = c ∧ a < H.length then o else a01 H c:=by
 unfold a01
 rw [List.getElem?_set]
 by_cases h:a = c
 ·subst h
  by_cases hl:a < H.length
  ·simp [hl]
  ·simp [hl]
 ·simp [h]
theorem a6g {H:a03} {a c:Nat} {o:Option AObj} (h:a ≠ c):a01 (H.set a o) c = a01 H c:=by rw [b4l,if_neg (fun e=>h e.1)]
theorem b1m {H:a03} {a c:Nat} {o:Option AObj} (h:(a = c) = False):a01 (H.set a o) c = a01 H c:=a6g (fun e=>h ▸ e)
theorem b2b {H:a03} {a:Nat} {o:Option AObj} (h:a < H.length):a01 (H.set a o) a = o:=by rw [b4l,if_pos ⟨rfl,h⟩]
def slV (b:Nat) (c:Option Nat):List (List AV) → AV|[]=>.nilslice|_ :: rs=>.slice b 0 (rs.length + 1) c
theorem d1o (b:Nat) (f:List (List AV)):slV b none f = grV b f:=by cases f<;>rfl
theorem b25 {H L:a03} {o:Option AObj} (i:Nat):(H ++ L).set (H.length + i) o = H ++ L.set i o:=by
 rw [List.set_append_right _ _ (by omega),Nat.add_sub_cancel_left]
theorem a9l {H L:a03} {o:Option AObj}:(H ++ L).set H.length o = H ++ L.set 0 o:=b25 0
theorem c3c {H L:a03} {o:Option AObj} {a:Nat} (h:(a < H.length) = True):(H ++ L).set a o = H.set a o ++ L:=List.set_append_left _ _ (of_eq_true h)
theorem a7l (n:Nat):(n < n + 1) = True:=by simp
theorem b2v {a n k:Nat} (h:(a < n) = True):(a < n + k) = True:=by have:=of_eq_true h;simp;omega
def a5x (ids:Nat → Nat) (cp:Nat → Option Nat) (fo:List (List (List AV))):List (List AV):=fo.mapIdx fun j f=>[slV (ids j) (cp j) f]
structure Two (H:a03) (b k:Nat) (ids:Nat → Nat) (cp:Nat → Option Nat) (fo:List (List (List AV))):Prop where
 top:a01 H b = some (.row 1 (a5x ids cp fo))
 sub:∀ (j:Nat) (f:List (List AV)),fo[j]? = some f → f ≠ [] → a01 H (ids j) = some (.row k f) ∧ ids j ≠ b
 inj:∀ (i j:Nat) (f g:List (List AV)),fo[i]? = some f → fo[j]? = some g → f ≠ [] → g ≠ [] → ids i = ids j → i = j
 flat:∀ f ∈ fo,FlatR f
theorem b3k {ids:Nat → Nat} {cp:Nat → Option Nat} {fo:List (List (List AV))} {j:Nat} {f:List (List AV)} (h:fo[j]? = some f):(a5x ids cp fo)[j]? = some [slV (ids j) (cp j) f]:=by
 unfold a5x;rw [List.getElem?_mapIdx,h];rfl
theorem a6x (ids:Nat → Nat) (cp:Nat → Option Nat) (fo:List (List (List AV))):(a5x ids cp fo).length = fo.length:=by unfold a5x;simp
theorem b7a (b:Nat) (c:Option Nat) {f:List (List AV)}:refs (slV b c f) = if f = [] then [] else [b]:=by cases f<;>rfl
theorem b62 {ids:Nat → Nat} {cp:Nat → Option Nat} {fo:List (List (List AV))} {c:Nat}:c ∈ (a5x ids cp fo).flatMap a0j ↔ ∃ j f,fo[j]? = some f ∧ f ≠ [] ∧ c = ids j:=by
 unfold a5x
 simp only [List.mem_flatMap]
 constructor
 ·rintro ⟨r,hr,hc⟩
  obtain ⟨j,hj⟩:=List.mem_iff_getElem?.1 hr
  rw [List.getElem?_mapIdx] at hj
  cases hf:fo[j]? with
  | none=>rw [hf] at hj;cases hj
  | some f=>
   rw [hf] at hj
   cases hj
   simp only [a0j,b7a,List.append_nil] at hc
   split at hc
   ·simp at hc
   ·rename_i hne
    exact ⟨j,f,hf,hne,by simpa using hc⟩
 ·rintro ⟨j,f,hf,hne,rfl⟩
  refine ⟨[slV (ids j) (cp j) f],List.mem_iff_getElem?.2 ⟨j,by rw [List.getElem?_mapIdx,hf];rfl⟩,?_⟩
  simp [a0j,b7a,hne]
theorem d6h {π:Nat → Option Nat} {b c:Nat} {q:Option Nat} {f:List (List AV)} (h:f ≠ [] → π b = some c):ren π (slV b q f) = slV c q f:=by
 cases f with
 | nil=>rfl
 | cons a r=>simp only [slV,ren,h (by simp)]
section
variable {m:Nat} {F:Frm} {H H1:a03} {R:Nat → Prop} {π:Nat → Option Nat} {b k:Nat} {ids:Nat → Nat} {cp:Nat → Option Nat} {fo:List (List (List AV))}
theorem Two.ren (hg:Gc m F H R π H1) (h:Two H b k ids cp fo) (hb:R b):∃ b' ids',π b = some b' ∧ Two H1 b' k ids' cp fo:=by
 obtain ⟨b',hb'⟩:=hg.here b hb
 have hsub:∀ (j:Nat) (f:List (List AV)),fo[j]? = some f → f ≠ [] → π (ids j) = some ((π (ids j)).getD 0):=by
  intro j f hf hne
  have:R (ids j):=hg.closed b hb _ (by rw [h.top];exact b62.2 ⟨j,f,hf,hne,rfl⟩)
  obtain ⟨c,hc⟩:=hg.here _ this
  rw [hc];rfl
 refine ⟨b',fun j=>(π (ids j)).getD 0,hb',?_,?_,?_,h.flat⟩
 ·rw [hg.heap b b' hb',h.top]
  simp only [Option.map_some,a0p]
  congr 2
  unfold a5x
  apply List.ext_getElem?
  intro j
  simp only [List.getElem?_map,List.getElem?_mapIdx]
  cases hf:fo[j]? with
  | none=>rfl
  | some f=>simp only [Option.map_some,List.map_cons,List.map_nil,d6h (hsub j f hf)]
 ·intro j f hf hne
  have e:=hsub j f hf hne
  obtain ⟨h1,h2⟩:=h.sub j f hf hne
  refine ⟨?_,?_⟩
  ·rw [hg.heap _ _ e,h1]
   simp only [Option.map_some,a0p,a0m π (h.flat f (List.mem_of_getElem? hf))]
  ·intro he
   rw [he] at e
   exact h2 (hg.inj _ _ _ e hb')
 ·intro i j f g hf hg' hne hne' e
  have e1:=hsub i f hf hne
  have e2:=hsub j g hg' hne'
  rw [e] at e1
  exact h.inj i j f g hf hg' hne hne' (hg.inj _ _ _ e1 e2)
theorem Two.app (h:Two H b k ids cp fo) {j n:Nat} {f:List (List AV)} {x:List AV} (hf:fo[j]? = some f) (hc:cp j = none) (hx:a0j x = []) (hn:H.length ≤ n)
 (h1:a01 H1 b = some (.row 1 ((a5x ids cp fo).set j [.slice n 0 (f.length + 1) none]))) (h2:a01 H1 n = some (.row k (f ++ [x])))
 (h3:∀ (i:Nat) (g:List (List AV)),i ≠ j → fo[i]? = some g → g ≠ [] → a01 H1 (ids i) = a01 H (ids i)) :
 Two H1 b k (fun i=>if i = j then n else ids i) cp (fo.set j (f ++ [x])):=by
 have hjl:j < fo.length:=(List.getElem?_eq_some_iff.1 hf).1
 have hlt:∀ (i:Nat) (g:List (List AV)),fo[i]? = some g → g ≠ [] → ids i < H.length:=fun i g hg hne=>a0z (h.sub i g hg hne).1
 have hbl:b < H.length:=a0z h.top
 refine ⟨?_,?_,?_,?_⟩
 ·rw [h1]
  congr 2
  apply List.ext_getElem?
  intro i
  unfold a5x
  rw [List.getElem?_set,List.length_mapIdx]
  by_cases hij:j = i
  ·subst hij
   simp only [if_true,hjl]
   rw [List.getElem?_mapIdx,List.getElem?_set]
   simp only [if_true,hjl,Option.map_some,hc,d1o,b0h]
  ·simp only [if_neg hij]
   rw [List.getElem?_mapIdx,List.getElem?_mapIdx,List.getElem?_set,if_neg hij]
   simp only [if_neg (Ne.symm hij)]
 ·intro i g hg hne
  rw [List.getElem?_set] at hg
  by_cases hij:j = i
  ·subst hij
   simp only [if_true,hjl,Option.some.injEq] at hg
   subst hg
   simp only [if_true]
   exact ⟨h2,by omega⟩
  ·rw [if_neg hij] at hg
   simp only [if_neg (Ne.symm hij)]
   rw [h3 i g (Ne.symm hij) hg hne]
   exact h.sub i g hg hne
 ·intro i i' g g' hg hg' hne hne' e
  rw [List.getElem?_set] at hg hg'
  by_cases hij:j = i<;>by_cases hij':j = i'
  ·omega
  ·subst hij
   simp only [if_neg hij'] at hg'
   simp only [if_true,if_neg (Ne.symm hij')] at e
   have:=hlt i' g' hg' hne'
   omega
  ·subst hij'
   simp only [if_neg hij] at hg
   simp only [if_true,if_neg (Ne.symm hij)] at e
   have:=hlt i g hg hne
   omega
  ·simp only [if_neg hij] at hg
   simp only [if_neg hij'] at hg'
   simp only [if_neg (Ne.symm hij),if_neg (Ne.symm hij')] at e
   exact h.inj i i' g g' hg hg' hne hne' e
 ·intro g hg
  rcases List.mem_or_eq_of_mem_set hg with hg|rfl
  ·exact h.flat g hg
  ·exact (h.flat f (List.mem_of_getElem? hf)).append (FlatR.cons hx FlatR.nil)
theorem b2p {H:a03}:∀ (l:List Nat),(∀ c ∈ l,a15 (a01 H c) = []) → (l.map fun c=>(a15 (a01 H c)).length).sum = 0
 | [],_=>rfl
 | a :: l,h=>by simp only [List.map_cons,List.sum_cons,h a (by simp),List.length_nil,b2p l (fun c hc=>h c (by simp [hc]))]
theorem Two.gc {keep:List Nat} (h:Two H b k ids cp fo) (hF:a0j ((a2e keep F).map (·.2)) = [b] ∨ a0j ((a2e keep F).map (·.2)) = [b,b]) (hn:fo.length < 900000) :
 ∃ π b' ids' H1,gcD 0 keep F H = some (b92 π (a2e keep F),H1) ∧ π b = some b' ∧ Two H1 b' k ids' cp fo:=by
 -- the blocks that rows lead to
 obtain ⟨S,hS⟩:∃ S,S = b :: ((List.range fo.length).filter fun j=>(fo[j]?).any fun f=>!f.isEmpty).map ids:=⟨_,rfl⟩
 have hleaf:∀ c ∈ ((List.range fo.length).filter fun j=>(fo[j]?).any fun f=>!f.isEmpty).map ids,a15 (a01 H c) = []:=by
  intro c hc
  obtain ⟨j,hj,rfl⟩:=List.mem_map.1 hc
  rw [List.mem_filter] at hj
  have hjl:j < fo.length:=by simpa using hj.1
  obtain ⟨f,hf⟩:∃ f,fo[j]? = some f:=⟨_,z9e hjl⟩
  have hne:=hj.2
  rw [hf] at hne
  rw [(h.sub j f hf (fun e=>by rw [e] at hne;simp at hne)).1]
  exact a0s (h.flat f (List.mem_of_getElem? hf))
 have hsum:((((List.range fo.length).filter fun j=>(fo[j]?).any fun f=>!f.isEmpty).map ids).map fun c=>(a15 (a01 H c)).length).sum = 0:=by
  exact b2p _ hleaf
 have hrow:(a15 (a01 H b)).length ≤ fo.length:=by
  rw [h.top]
  show ((a5x ids cp fo).flatMap a0j).length ≤ _
  have:∀ (l:List (List AV)),(∀ r ∈ l,(a0j r).length ≤ 1) → (l.flatMap a0j).length ≤ l.length:=by
   intro l
   induction l with
   | nil=>intro _;simp
   | cons r l ih=>
    intro hl
    have h1:=hl r (by simp)
    have h2:=ih (fun r hr=>hl r (by simp [hr]))
    simp only [List.flatMap_cons,List.length_append,List.length_cons];omega
  have h2:=this (a5x ids cp fo) (by
   intro r hr
   obtain ⟨j,hj⟩:=List.mem_iff_getElem?.1 hr
   unfold a5x at hj
   rw [List.getElem?_mapIdx] at hj
   cases hf:fo[j]? with
   | none=>rw [hf] at hj;cases hj
   | some f=>rw [hf] at hj;cases hj;simp only [a0j,b7a];split<;>simp)
  rw [a6x] at h2;exact h2
 obtain ⟨R,π,H1,g1,g2,_⟩:=c92 (m:=0) (keep:=keep) (F:=F) (H:=H) (Nat.zero_le _) S (by intro c hc;rcases hF with hF|hF<;>rw [hF] at hc<;>simp at hc<;>subst hc<;>simp [hS]) (fun c hc=>absurd hc (Nat.not_lt_zero c)) (by
  intro c hc d hd
  simp only [hS,List.mem_cons] at hc
  rcases hc with rfl|hc
  ·rw [h.top] at hd
   obtain ⟨j,f,hf,hne,rfl⟩:=b62.1 hd
   simp only [hS,List.mem_cons]
   refine .inr (List.mem_map.2 ⟨j,List.mem_filter.2 ⟨by simpa using (List.getElem?_eq_some_iff.1 hf).1,?_⟩,rfl⟩)
   rw [hf];cases f with|nil=>exact absurd rfl hne|cons=>rfl
  ·rw [hleaf c hc] at hd;simp at hd) (by
  have hl:(a0j ((a2e keep F).map (·.2))).length ≤ 2:=by rcases hF with hF|hF<;>rw [hF]<;>simp
  simp only [hS,List.map_cons,List.sum_cons,hsum,List.take_zero,List.flatMap_nil,List.length_nil]
  omega)
 obtain ⟨b',ids',e1,e2⟩:=h.ren g2 (g2.refs b (by rcases hF with hF|hF<;>rw [hF]<;>simp))
 exact ⟨π,b',ids',H1,g1,e1,e2⟩
theorem Two.clip (h:Two H b k ids cp fo) {j c:Nat} {f:List (List AV)} (hf:fo[j]? = some f) (h1:a01 H1 b = some (.row 1 ((a5x ids cp fo).set j [slV (ids j) (some c) f])))
 (h3:∀ c,c ≠ b → a01 H1 c = a01 H c):Two H1 b k ids (fun i=>if i = j then some c else cp i) fo:=by
 have hjl:j < fo.length:=(List.getElem?_eq_some_iff.1 hf).1
 refine ⟨?_,fun i g hg hne=>?_,h.inj,h.flat⟩
 ·rw [h1]
  congr 2
  apply List.ext_getElem?
  intro i
  unfold a5x
  rw [List.getElem?_set,List.length_mapIdx]
  by_cases hij:j = i
  ·subst hij
   simp only [if_true,hjl]
   rw [List.getElem?_mapIdx,hf]
   simp
  ·simp only [if_neg hij]
   rw [List.getElem?_mapIdx,List.getElem?_mapIdx]
   simp only [if_neg (Ne.symm hij)]
 ·obtain ⟨g1,g2⟩:=h.sub i g hg hne
  rw [h3 _ g2];exact ⟨g1,g2⟩
def slF (c:Option Nat):List (List AV) → AV|[]=>.nilslice|r :: rs=>.islice (r :: rs) c
theorem Two.frz (h:Two H b k ids cp fo) (c:Option Nat):a3f 0 true (a5c (a01 H) 0 12) (.slice b 0 fo.length c) = some (.islice (fo.mapIdx fun j f=>[slF (cp j) f]) c):=by
 have key:∀ (rows:List (List AV)) (out:List (List AV)),rows.length = out.length → (∀ (j:Nat) r o,rows[j]? = some r → out[j]? = some o → a5h 0 false (a5c (a01 H) 0 11) r = some o) → a9a 0 (a5c (a01 H) 0 11) rows = some out:=by
  intro rows
  induction rows with
  | nil=>intro out hl _;cases out with|nil=>rfl|cons=>simp at hl
  | cons r rows ih=>
   intro out hl hh
   cases out with
   | nil=>simp at hl
   | cons o out=>
    rw [b4q,hh 0 r o rfl rfl]
    simp only [a0h]
    rw [ih out (by simpa using hl) (fun j r o hr ho=>hh (j + 1) r o (by simpa using hr) (by simpa using ho))]
 have e12:∀ x,a5c (a01 H) 0 12 x = a5c (a01 H) 0 (11 + 1) x:=fun _=>rfl
 rw [a8q,decide_eq_false (Nat.not_lt_zero b),cond_false,a75 (eq_true (by omega:0 < 12)),h.top]
 simp only [b0w,a0h,a6x,List.drop_zero,Nat.zero_add]
 rw [decide_eq_true (Nat.le_refl _),cond_true,← a6x ids cp fo,List.take_length]
 rw [key (a5x ids cp fo) (fo.mapIdx fun j f=>[slF (cp j) f]) (by rw [a6x];simp)]
 intro j r o hr ho
 rw [List.getElem?_mapIdx] at ho
 cases hf:fo[j]? with
 | none=>rw [hf] at ho;cases ho
 | some f=>
  rw [hf] at ho
  rw [b3k hf] at hr
  cases ho;cases hr
  rw [a74,b8g]
  cases f with
  | nil=>rfl
  | cons x xs=>
   obtain ⟨g1,_⟩:=h.sub j _ hf (by simp)
   have hfl:=h.flat _ (List.mem_of_getElem? hf)
   simp only [slV,slF]
   rw [a8q,decide_eq_false (Nat.not_lt_zero _),cond_false,a75 (eq_true (by omega:0 < 11)),g1]
   simp only [b0w,a0h,List.drop_zero,Nat.zero_add]
   rw [decide_eq_true (by simp),cond_true]
   have:List.take (xs.length + 1) (x :: xs) = x :: xs:=List.take_length (l:=x :: xs)
   rw [this,a1g _ _ hfl]
end
theorem Two.more {H L:a03} {b k:Nat} {ids:Nat → Nat} {cp:Nat → Option Nat} {fo:List (List (List AV))} (h:Two H b k ids cp fo):Two (H ++ L) b k ids cp fo:=by
 have hl:∀ {c:Nat} {o:AObj},a01 H c = some o → a01 (H ++ L) c = some o:=fun hc=>by rw [a3q (eq_true (a0z hc))];exact hc
 exact ⟨hl h.top,fun j f hf hne=>⟨hl (h.sub j f hf hne).1,(h.sub j f hf hne).2⟩,h.inj,h.flat⟩
theorem a8n {H L:a03} {a:Nat} {o:Option AObj} (i:Nat):a01 (H.set a o ++ L) (H.length + i) = a01 L i:=by
 have:=a5m (H:=H.set a o) (L:=L) i
 rwa [List.length_set] at this
theorem a3a {H L:a03} {a c:Nat} {o:Option AObj} (hc:c < H.length):a01 (H.set a o ++ L) c = if a = c then o else a01 H c:=by
 rw [a3q (eq_true (by rw [List.length_set];exact hc)),b4l]
 by_cases h:a = c
 ·subst h;simp [hc]
 ·simp [h]
section
variable {H:a03} {b k:Nat} {ids:Nat → Nat} {cp:Nat → Option Nat} {fo:List (List (List AV))} {j:Nat} {x:List AV} {o:Option AObj}
theorem Two.app1 (h:Two H b k ids cp fo) (hf:fo[j]? = some []) (hc:cp j = none) (hx:a0j x = []) :
 Two (H.set b (some (.row 1 ((a5x ids cp fo).set j [.slice (H.length + 1) 0 1 none]))) ++ [o,some (.row k [x])]) b k (fun i=>if i = j then H.length + 1 else ids i) cp (fo.set j [x]):=by
 have hbl:=a0z h.top
 refine h.app hf hc hx (by omega) ?_ ?_ ?_
 ·rw [a3a hbl,if_pos rfl];rfl
 ·rw [a8n];rfl
 ·intro i g hij hg hne
  obtain ⟨g1,g2⟩:=h.sub i g hg hne
  rw [a3a (a0z g1),if_neg (Ne.symm g2)]
theorem Two.app2 {a:List AV} {r:List (List AV)} (h:Two H b k ids cp fo) (hf:fo[j]? = some (a :: r)) (hc:cp j = none) (hx:a0j x = []) :
 Two ((H.set (ids j) none).set b (some (.row 1 ((a5x ids cp fo).set j [.slice (H.length + 1) 0 (r.length + 1 + 1) none]))) ++ [o,some (.row k (a :: (r ++ [x])))]) b k (fun i=>if i = j then H.length + 1 else ids i) cp (fo.set j (a :: r ++ [x])):=by
 have hbl:=a0z h.top
 have hll:(H.set (ids j) none).length = H.length:=List.length_set
 refine h.app hf hc hx (by omega) ?_ ?_ ?_
 ·rw [a3a (by rw [hll];exact hbl),if_pos rfl];rfl
 ·have:=a8n (H:=H.set (ids j) none) (L:=[o,some (.row k (a :: (r ++ [x])))]) (a:=b) (o:=some (.row 1 ((a5x ids cp fo).set j [.slice (H.length + 1) 0 (r.length + 1 + 1) none]))) 1
  rw [hll] at this
  rw [this];rfl
 ·intro i g hij hg hne
  obtain ⟨g1,g2⟩:=h.sub i g hg hne
  rw [a3a (by rw [hll];exact a0z g1),if_neg (Ne.symm g2),a6g]
  intro e
  exact hij (h.inj i j g (a :: r) hg hf hne (by simp) e.symm)
end
theorem a6b {keep:List Nat} {F:Frm} {H:a03} {b k:Nat} {ids:Nat → Nat} {cp:Nat → Option Nat} {fo:List (List (List AV))} {P:Frm → a03 → Prop} (h:Two H b k ids cp fo) (hF:a0j ((a2e keep F).map (·.2)) = [b] ∨ a0j ((a2e keep F).map (·.2)) = [b,b]) (hn:fo.length < 900000)
 (hP:∀ π b' ids' H1,π b = some b' → Two H1 b' k ids' cp fo → P (b92 π (a2e keep F)) H1):∃ F1 H1,gcD 0 keep F H = some (F1,H1) ∧ P F1 H1:=by
 obtain ⟨π,b',ids',H1,g1,g2,g3⟩:=h.gc hF hn
 exact ⟨_,H1,g1,hP π b' ids' H1 g2 g3⟩
def fqE (E:Env) (g:FuncId) (m:Nat) (results:List ResultVar) (P:AV × a03 → Prop):b04:=
 fun e F H=>match e with|.exit _=>False|_=>∃ vs r,a13 E F H results = some vs ∧ a1j (E.thaw g) m (a5g vs) H = some r ∧ P r
theorem a77 {E:Env} {g:FuncId} {m:Nat} {results:List ResultVar} {P:AV × a03 → Prop} {F:Frm} {H:a03} {vs:List AV} {r:AV × a03} (h1:a13 E F H results = some vs) (h2:a1j (E.thaw g) m (a5g vs) H = some r) (h3:P r):fqE E g m results P .ret F H:=⟨vs,r,h1,h2,h3⟩
theorem c0k {E:Env} {g:FuncId} {m:Nat} {results:List ResultVar} {P:AV × a03 → Prop} {F:Frm} {H:a03} {vs:List AV} {r:AV × a03} (h1:a13 E F H results = some vs) (h2:a1j (E.thaw g) m (a5g vs) H = some r) (h3:P r):fqE E g m results P .normal F H:=⟨vs,r,h1,h2,h3⟩
theorem d6k {E:Env} {M:List Fact} {g:FuncId} {args:List AV} {H:a03} {code:Code} {N:Nat} {results:List ResultVar} {P:AV × a03 → Prop}
 (hfn:E.fn g = some ⟨code,N,results⟩) (hno:∀ y ∈ M,y.g ≠ g) (hN:Nat.ble args.length N = true) {m:Nat} (hm:H.length = m) (h:Wp (cx E M m N g 0) code (a5e 0 args) H (fqE E g m results P)) (hp:E.prim g args = none:=by rfl) (hz:E.zf g = false:=by rfl):∃ r,P r ∧ sem E M g args H = some r:=by
 subst hm
 obtain ⟨e,F',H',h1,h2⟩:=c4l _ h
 cases e with
 | normal=>obtain ⟨vs,⟨v,H2⟩,h3,h4,h5⟩:=h2;exact ⟨_,h5,c3d hfn hno hN h1 (fun _ h=>by cases h) h3 h4 hp hz⟩
 | ret=>obtain ⟨vs,⟨v,H2⟩,h3,h4,h5⟩:=h2;exact ⟨_,h5,c3d hfn hno hN h1 (fun _ h=>by cases h) h3 h4 hp hz⟩
 | exit id=>exact h2.elim
theorem svE {E:Env} {M:List Fact} {g:FuncId} {args:List AV} {H:a03} {P:AV × a03 → Prop} (f:Func) (h:Wp (cx E M H.length f.ntmps g 0) (f.body.getD .skip) (a5e 0 args) H (fqE E g H.length f.results.toList P)) (hfn:E.fn g = some ⟨f.body.getD .skip,f.ntmps,f.results.toList⟩:=by kernel_rfl)
 (hno:(M.all fun y=>!Nat.beq y.g g) = true:=by rfl) (hN:Nat.ble args.length f.ntmps = true:=by rfl) (hp:E.prim g args = none:=by rfl) (hz:E.zf g = false:=by rfl):∃ r,P r ∧ sem E M g args H = some r:=d6k hfn (fun y hy e=>by
 have:=List.all_eq_true.1 hno y hy
 rw [e] at this
 simp at this) hN rfl h hp hz
end Go.Ax
/- AxCall3: calls over two blocks, which they may write. -/
namespace Go.Ax
theorem b28 {σ:List Nat} {n:Nat} {H1:a03}:∀ (s:Nat) (H:a03) (i:Nat),(a1f σ n H1 s H)[i]? = (H[i]?).map fun o=>match σ.idxOf? (s + i) with|some j=>(a01 H1 j).map (a0p (a1q σ n))|none=>o
 | s,[],i=>by simp [a1f]
 | s,o :: H,0=>by simp [a1f];rfl
 | s,o :: H,i + 1=>by
  simp only [a1f,List.getElem?_cons_succ,b28 (s + 1) H i]
  rw [show s + 1 + i = s + (i + 1) by omega]
theorem c7j {H:a03} {a b:Nat} (hab:a ≠ b) (ha:a15 (a01 H a) = []) (hb:a15 (a01 H b) = []):a2n H 1000000 [a,b] [] = [a,b]:=by
 have e:a2n H (999996 + 4) [a,b] [] = [a,b]:=by
  unfold a2n
  simp only [a16,cond_false,ha,List.nil_append]
  unfold a2n
  have h1:a16 [a] b = false:=by
   cases hc:a16 [a] b with
   | false=>rfl
   | true=>exact absurd (by simpa using a2r.1 hc) (Ne.symm hab)
  simp only [h1,cond_false,hb,List.nil_append]
  unfold a2n
  rfl
 exact e
theorem b57 {E:Env} {draw:Bool} {call:CallF} {g:FuncId} {fs cs ar args:List AV} {H:a03} {v v':AV} {a b:Nat} {o1 o2 p1 p2:AObj} (hx:E.ext g = false) (hf:(E.fn g).isSome = true) (he:fs ++ ar ++ cs = args)
 (hab:a ≠ b) (ha:a01 H a = some o1) (hb:a01 H b = some o2) (hr1:a15 (some o1) = []) (hr2:a15 (some o2) = []) (hf1:FlatO (some o1)) (hf2:FlatO (some o2)) (hargs:a0j args = [a,b])
 {args':List AV} (hra:args.map (ren (a9o [a,b])) = args') (hr:call g args' [some o1,some o2] = some (v,[some p1,some p2])) (hp1:FlatO (some p1)) (hp2:FlatO (some p2)) (hv:ren (a1q [a,b] H.length) v = v') :
 a0g E draw call (.func (.func g) fs cs) ar H = some (v',(H.set a (some p1)).set b (some p2),[a,b]):=by
 have l1:=a0z ha
 have l2:=a0z hb
 have hn:a56 [a,b] = true:=b3y (by simp [hab])
 have hc:=a5r (call g) args H (σ:=[a,b]) (by rw [hargs];exact c7j hab (by rw [ha];exact hr1) (by rw [hb];exact hr2)) hn (by simp [l1,l2]) hra (H0:=[some o1,some o2])
  (by simp only [a5j,List.map_cons,List.map_nil,ha,hb];rw [hf1,hf2]) hr
 have hpb:a1f [a,b] H.length [some p1,some p2] 0 H = (H.set a (some p1)).set b (some p2):=by
  apply List.ext_getElem?
  intro i
  rw [b28,List.getElem?_set,List.getElem?_set,List.length_set,Nat.zero_add]
  by_cases hia:a = i
  ·subst hia
   have e:([a,b]:List Nat).idxOf? a = some 0:=by simp [List.idxOf?_cons]
   rw [z9e l1]
   simp only [Option.map_some,e,if_neg (Ne.symm hab),if_true,l1]
   congr 1
   exact hp1 _
  ·by_cases hib:b = i
   ·subst hib
    have e:([a,b]:List Nat).idxOf? b = some 1:=by simp [List.idxOf?_cons,hab]
    rw [z9e l2]
    simp only [Option.map_some,e,if_true,l2]
    congr 1
    exact hp2 _
   ·have e:([a,b]:List Nat).idxOf? i = none:=by simp [List.idxOf?_cons,hia,hib]
    rw [if_neg hib,if_neg hia]
    cases H[i]? with
    | none=>rfl
    | some o=>simp only [Option.map_some,e]
 rw [hv,hpb] at hc
 simp only [List.drop_succ_cons,List.drop_zero,List.map_nil,List.append_nil,List.length_cons,List.length_nil] at hc
 exact a9c hx hf he hc (by simp)
theorem c1w (a b o l:Nat) (c:Option Nat):ren (a9o [a,b]) (.slice a o l c) = .slice 0 o l c:=by simp [ren,a9o,List.idxOf?_cons]
theorem c7c {a b:Nat} (h:a ≠ b) (i o:Nat):ren (a9o [a,b]) (.ptr b i o) = .ptr 1 i o:=by simp [ren,a9o,List.idxOf?_cons,h]
end Go.Ax
