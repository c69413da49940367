/- AxHeap: calls on, and loops over, heaps of a few known blocks: what is reached, renamed and put back, ar rewrite rules. -/
import Derived.Test.YtbmkmaobejlkgaaDoorAxD
set_option linter.unusedSimpArgs false
set_option linter.unusedVariables false
namespace Go.Ax
@[go_sem] theorem reach_zero (H:Heap) (n:Nat) (acc:List Nat):reach H n [] acc = acc.reverse:=by cases n<;>rfl
theorem reach_cons (H:Heap) (n:Nat) (b:Nat) (todo acc:List Nat):reach H (n + 1) (b :: todo) acc = bif containsN acc b then reach H n todo acc else reach H n (refsO (HeapF H b) ++ todo) (b :: acc):=by rfl
@[go_sem] theorem reach_step {n:Nat} (hn:(0 < n) = True) (H:Heap) (b:Nat) (todo acc:List Nat):reach H n (b :: todo) acc = bif containsN acc b then reach H (n - 1) todo acc else reach H (n - 1) (refsO (HeapF H b) ++ todo) (b :: acc):=by
 obtain ⟨m,rfl⟩:∃ m,n = m + 1:=⟨n - 1,by have:=of_eq_true hn;omega⟩
 exact reach_cons H m b todo acc
@[go_sem] theorem containsN_nil (x:Nat):containsN [] x = false:=by rfl
@[go_sem] theorem containsN_cons (a:Nat) (r:List Nat) (x:Nat):containsN (a :: r) x = bif decide (a = x) then true else containsN r x:=by
 simp only [containsN,nbeq,beqN]
@[go_sem] theorem nodupB_nil:nodupB [] = true:=by rfl
@[go_sem] theorem nodupB_cons (a:Nat) (r:List Nat):nodupB (a :: r) = (!(containsN r a) && nodupB r):=by rfl
@[go_sem] theorem refsO_row (k:Nat) (rows:List (List AV)):refsO (some (.row k rows)) = rows.flatMap refsL:=by rfl
@[go_sem] theorem idx_nil (b:Nat):List.idxOf? b [] = none:=by rfl
@[go_sem] theorem idx_cons (a:Nat) (l:List Nat) (b:Nat):List.idxOf? b (a :: l) = bif decide (a = b) then some 0 else (List.idxOf? b l).map (·+ 1):=by
 rw [List.idxOf?_cons,beqN]
 cases decide (a = b)<;>rfl
@[go_sem] theorem backOf_ap (σ:List Nat) (n j:Nat):backOf σ n j = bif decide (j < σ.length) then σ[j]? else some (n + (j - σ.length)):=by
 simp only [backOf,bltD]
@[go_sem] theorem smallH_nil (H:Heap) (π:Nat → Option Nat):smallH H [] π = []:=by rfl
@[go_sem] theorem smallH_cons (H:Heap) (b:Nat) (σ:List Nat) (π:Nat → Option Nat):smallH H (b :: σ) π = (HeapF H b).map (renObj π) :: smallH H σ π:=by rfl
@[go_sem] theorem putBack_nil' (σ:List Nat) (n:Nat) (H1:Heap) (b:Nat):putBack σ n H1 b [] = []:=by rfl
def putOne (σ:List Nat) (n:Nat) (H1:Heap) (o:Option AObj):Option Nat → Option AObj
 | some j=>(HeapF H1 j).map (renObj (backOf σ n))
 | none=>o
@[go_sem] theorem putOne_some (σ:List Nat) (n:Nat) (H1:Heap) (o:Option AObj) (j:Nat):putOne σ n H1 o (some j) = (HeapF H1 j).map (renObj (backOf σ n)):=by rfl
@[go_sem] theorem putOne_none (σ:List Nat) (n:Nat) (H1:Heap) (o:Option AObj):putOne σ n H1 o none = o:=by rfl
@[go_sem] theorem putBack_cons (σ:List Nat) (n:Nat) (H1:Heap) (b:Nat) (o:Option AObj) (r:Heap):putBack σ n H1 b (o :: r) = putOne σ n H1 o (σ.idxOf? b) :: putBack σ n H1 (b + 1) r:=by
 simp only [putBack]
 cases σ.idxOf? b<;>rfl
@[go_sem] theorem renObj_row (π:Nat → Option Nat) (k:Nat) (rows:List (List AV)):renObj π (.row k rows) = .row k (rows.map fun r=>r.map (ren π)):=by rfl
/- renaming a value -/
section
variable (π:Nat → Option Nat)
def renB (f:Nat → AV):Option Nat → AV|some b=>f b|none=>.junk
@[go_sem] theorem renB_some (f:Nat → AV) (b:Nat):renB f (some b) = f b:=by rfl
@[go_sem] theorem ren_ptr (b i o:Nat):ren π (.ptr b i o) = renB (fun b=>.ptr b i o) (π b):=by simp only [ren];cases π b<;>rfl
@[go_sem] theorem ren_slice (b i o:Nat) (c:Option Nat):ren π (.slice b i o c) = renB (fun b=>.slice b i o c) (π b):=by simp only [ren];cases π b<;>rfl
@[go_sem] theorem ren_int (k:IntKind) (n:Int):ren π (.int k n) = .int k n:=by rfl
@[go_sem] theorem ren_bool (b:Bool):ren π (.bool b) = .bool b:=by rfl
@[go_sem] theorem ren_islice (r:List (List AV)) (c:Option Nat):ren π (.islice r c) = .islice r c:=by rfl
@[go_sem] theorem ren_nilslice:ren π .nilslice = .nilslice:=by rfl
@[go_sem] theorem ren_junk:ren π .junk = .junk:=by rfl
@[go_sem] theorem ren_tuple (l:List AV):ren π (.tuple l) = .tuple (l.map (ren π)):=by simp only [ren,renL_eq]
@[go_sem] theorem ren_func (f:Fn) (a b:List AV):ren π (.func f a b) = .func f (a.map (ren π)) (b.map (ren π)):=by simp only [ren,renL_eq]
@[go_sem] theorem renF_nil:renF π [] = []:=by rfl
@[go_sem] theorem renF_cons (s:Nat) (v:AV) (r:Frm):renF π ((s,v) :: r) = (s,ren π v) :: renF π r:=by rfl
end
@[go_sem] theorem gcPi_ap (m:Nat) (σ:List Nat) (b:Nat):gcPi m σ b = bif decide (b < m) then some b else (σ.idxOf? b).map (m + ·):=by
 simp only [gcPi,bltD]
theorem gcD_eq {m:Nat} {keep:List Nat} {F:Frm} {H:Heap}:gcD m keep F H = bif nodupB (gcIds m (keepF keep F) H) && (gcIds m (keepF keep F) H).all (fun b=>decide (m ≤ b)) && decide (m ≤ H.length) then
 some (renF (gcPi m (gcIds m (keepF keep F) H)) (keepF keep F),gcH m (gcIds m (keepF keep F) H) H) else none:=by
 have e:(fun b=>Nat.ble m b) = fun b=>decide (m ≤ b):=funext fun b=>bleD m b
 simp only [gcD,e,bleD]
theorem gcIds_eq (m:Nat) (F:Frm) (H:Heap):gcIds m F H = (reach H 1000000 ((H.take m).flatMap refsO ++ refsL (F.map (·.2))) []).filter fun b=>decide (m ≤ b):=by
 have e:(fun b=>Nat.ble m b) = fun b=>decide (m ≤ b):=funext fun b=>bleD m b
 simp only [gcIds,reachFuel,e]
@[go_sem] theorem gcH_eq (m:Nat) (σ:List Nat) (H:Heap):gcH m σ H = (H.take m).map (Option.map (renObj (gcPi m σ))) ++ smallH H σ (gcPi m σ):=by rfl
@[go_sem] theorem filterB {α:Type} (p:α → Bool) (a:α) (l:List α):(a :: l).filter p = bif p a then a :: l.filter p else l.filter p:=by
 rw [List.filter_cons];cases p a<;>rfl
attribute [go_sem] List.reverse_cons List.reverse_nil List.filter_nil List.flatMap_cons List.flatMap_nil
theorem callLoc_eq (run:List AV → Heap → Option (AV × Heap)) (args:List AV) (H:Heap) {σ:List Nat} (hσ:reach H 1000000 (refsL args) [] = σ) (hn:nodupB σ = true) (hl:(σ.all fun b=>decide (b < H.length)) = true)
 {args':List AV} (ha:args.map (ren (piOf σ)) = args') {H0:Heap} (hH:smallH H σ (piOf σ) = H0) {v:AV} {H1:Heap} (hr:run args' H0 = some (v,H1)) :
 callLoc run args H = some (ren (backOf σ H.length) v,putBack σ H.length H1 0 H ++ (H1.drop σ.length).map (Option.map (renObj (backOf σ H.length))),σ):=by
 have e:(fun b=>Nat.blt b H.length) = fun b=>decide (b < H.length):=funext fun b=>bltD b H.length
 unfold callLoc
 simp only [reachFuel,hσ,hn,e,hl,Bool.and_self,cond_true,ha,hH,hr]
theorem callV_eq {E:Env} {draw:Bool} {call:CallF} {g:FuncId} {fs cs ar args:List AV} {H:Heap} (hx:E.ext g = false) (hf:(E.fn g).isSome = true) (he:fs ++ ar ++ cs = args) {v:AV} {H':Heap} {σ:List Nat}
 (h:callLoc (call g) args H = some (v,H',σ)) (hl:H'.length = H.length):callV E draw call (.func (.func g) fs cs) ar H = some (v,H',σ):=by
 have hb:Nat.ble H.length H.length = true:=by rw [Nat.ble_eq];exact Nat.le_refl _
 simp only [callV,hx,hf,he,cond_true,cond_false,h,hl,hb,Bool.not_true,Bool.and_false]
theorem callV_eqn {E:Env} {call:CallF} {g:FuncId} {fs cs ar args:List AV} {H:Heap} (hx:E.ext g = false) (hf:(E.fn g).isSome = true) (he:fs ++ ar ++ cs = args) {v:AV} {H':Heap} {σ:List Nat}
 (h:callLoc (call g) args H = some (v,H',σ)):callV E false call (.func (.func g) fs cs) ar H = some (v,H',σ):=by
 simp only [callV,hx,hf,he,cond_true,cond_false,h,Bool.false_and]
/- freezing -/
@[go_sem] theorem obindE_some {α β:Type} (a:α) (f:α → β) (d:β):obindE (some a) f d = f a:=by rfl
@[go_sem] theorem finish_eq {m:Nat} {v:AV} {H:Heap}:finish false m v H = obindE (frzV m true (frzD (HeapF H) m 12) v) (fun v'=>some (v',(H.take m).map (Option.map (renObj (piBelow m))))) (some (v,H)):=by
 simp only [finish,cond_false]
 cases frzV m true (frzD (HeapF H) m 12) v<;>rfl
section
variable {m:Nat} {top:Bool} {d:AV → Option AV} {h:FHeap} {n:Nat}
@[go_sem] theorem frz_int (k:IntKind) (i:Int):frzV m top d (.int k i) = some (.int k i):=by rfl
@[go_sem] theorem frz_bool (b:Bool):frzV m top d (.bool b) = some (.bool b):=by rfl
@[go_sem] theorem frz_nilslice:frzV m top d .nilslice = some .nilslice:=by rfl
@[go_sem] theorem frz_sl (c:Option (Option Nat)) (rows:List (List AV)):frzV m top d (sl c rows) = some (sl c rows):=frzV_flat m top d _ (refs_sl c rows)
@[go_sem] theorem frz_agg (l:List AV):frzV m top d (.agg l) = obind (frzL m top d l) fun l=>some (.agg l):=by simp only [frzV];cases frzL m top d l<;>rfl
@[go_sem] theorem frz_tuple (l:List AV):frzV m top d (.tuple l) = obind (frzL m top d l) fun l=>some (.tuple l):=by simp only [frzV];cases frzL m top d l<;>rfl
@[go_sem] theorem frz_func (f:Fn) (a b:List AV):frzV m top d (.func f a b) = obind (frzL m top d a) fun a=>obind (frzL m top d b) fun b=>some (.func f a b):=by
 simp only [frzV];cases frzL m top d a<;>cases frzL m top d b<;>rfl
@[go_sem] theorem frzL_nil:frzL m top d [] = some []:=by rfl
@[go_sem] theorem frzL_cons (v:AV) (l:List AV):frzL m top d (v :: l) = obind (frzV m top d v) fun v=>obind (frzL m top d l) fun l=>some (v :: l):=by
 simp only [frzL];cases frzV m top d v<;>cases frzL m top d l<;>rfl
@[go_sem] theorem frz_slice (b o l:Nat) (c:Option Nat):frzV m top d (.slice b o l c) = bif decide (b < m) then (bif top then some (.slice b o l c) else none) else d (.slice b o l c):=by simp only [frzV,frzP,bltD]
@[go_sem] theorem frz_ptr (b o l:Nat):frzV m top d (.ptr b o l) = bif decide (b < m) then (bif top then some (.ptr b o l) else none) else d (.ptr b o l):=by simp only [frzV,frzP,bltD]
@[go_sem] theorem frzD_slice (hn:(0 < n) = True) (b o l:Nat) (c:Option Nat):frzD h m n (.slice b o l c) = obind (rowO (h b)) fun kr=>bif decide (o + l ≤ kr.2.length) then obind (frzR m (frzD h m (n - 1)) ((kr.2.drop o).take l)) fun rs=>some (.islice rs c) else none:=by
 obtain ⟨n,rfl⟩:∃ k,n = k + 1:=⟨n - 1,by have:=of_eq_true hn;omega⟩
 simp only [frzD,Nat.add_sub_cancel]
 cases hb:h b with
 | none=>simp only [hb];rfl
 | some ob=>
  cases ob<;>simp only [hb,rowO,obind,bleD]
  rename_i kk rows
  cases frzR m (frzD h m n) ((rows.drop o).take l)<;>rfl
@[go_sem] theorem frzD_ptr (hn:(0 < n) = True) (b i o:Nat):frzD h m n (.ptr b i o) = obind (rowO (h b)) fun kr=>obind (kr.2[i]?) fun r=>obind (frzL m false (frzD h m (n - 1)) (r.drop o)) fun cs=>some (.iptr cs):=by
 obtain ⟨n,rfl⟩:∃ k,n = k + 1:=⟨n - 1,by have:=of_eq_true hn;omega⟩
 simp only [frzD,Nat.add_sub_cancel]
 cases hb:h b with
 | none=>simp only [hb];rfl
 | some ob=>
  cases ob<;>simp only [hb,rowO,obind]
  rename_i kk rows
  cases rows[i]? with
  | none=>rfl
  | some r=>simp only;cases frzL m false (frzD h m n) (r.drop o)<;>rfl
theorem frzR_cons (r:List AV) (rs:List (List AV)):frzR m d (r :: rs) = obind (frzL m false d r) fun r=>obind (frzR m d rs) fun rs=>some (r :: rs):=by
 simp only [frzR];cases frzL m false d r<;>cases frzR m d rs<;>rfl
attribute [go_sem] frzR_cons
end
/-! ### append -/
section
variable {E:Env} {h:FHeap} {n:Nat}
@[go_sem] theorem arows_slice (k b o l:Nat) (c:Option Nat):arowsOf h k (.slice b o l c) = obind (rowO (h b)) fun kr=>bif decide (kr.1 = k) && decide (o + l ≤ kr.2.length) then some ((kr.2.drop o).take l) else none:=by
 simp only [arowsOf]
 cases hb:h b with
 | none=>simp only [hb];rfl
 | some ob=>cases ob<;>simp only [hb,rowO,obind,beqN,bleD]
@[go_sem] theorem arows_islice (k:Nat) (rows:List (List AV)) (c:Option Nat):arowsOf h k (.islice rows c) = bif rows.all (fun r=>decide (r.length = k)) then some rows else none:=by
 simp only [arowsOf,beqN]
@[go_sem] theorem arows_sl (k:Nat) (rows:List (List AV)) (c:Option (Option Nat)):arowsOf h k (sl c rows) = bif rows.all (fun r=>decide (r.length = k)) then some rows else none:=by
 cases c with
 | some c=>rw [sl_some];exact arows_islice k rows c
 | none=>cases rows with
  | nil=>rfl
  | cons a r=>exact arows_islice k _ none
def apT (E:Env) (st xt:TypeId):Option TypeId:=match E.und st,E.und xt with
 | some (.slice e),some dx=>bif isIntDesc dx || !(E.zero e).isSome || !(Nat.blt 0 (E.sz e)) then none else some e
 | _,_=>none
def apS (E:Env) (h:FHeap) (n:Nat) (elem:TypeId) (xs:List (List AV)):AV → Option (AV × Eff)
 | .nilslice=>match xs with
  | []=>some (.nilslice,.none)
  | y :: ys=>bif roomOk E elem (y :: ys).length then some (.slice n 0 (y :: ys).length none,.new (.row (E.sz elem) (y :: ys))) else none
 | .islice rows cap=>bif rows.all (fun r=>r.length == E.sz elem) then match xs with
  | []=>some (.islice rows cap,.none)
  | y :: ys=>match cap with
   | some c=>bif Nat.blt c (rows.length + (y :: ys).length) && roomOk E elem (rows.length + (y :: ys).length) then
    some (.slice n 0 (rows.length + (y :: ys).length) none,.new (.row (E.sz elem) (rows ++ (y :: ys)))) else none
   | none=>none
  else none
 | .slice b off len cap=>match h b with
  | some (.row kk rows)=>bif kk == E.sz elem && Nat.ble (off + len) rows.length then
   match cap with
   | none=>bif roomOk E elem (len + xs.length) && xs.all (fun r=>r.all AV.storable) then
    some (.slice n 0 (len + xs.length) none,.kill b (.row (E.sz elem) (bif Nat.beq (off + len) rows.length then rows.drop off ++ xs else (rows.drop off).take len ++ xs))) else none
   | some c=>bif Nat.ble (len + xs.length) c then
    bif Nat.ble (off + len + xs.length) rows.length && xs.all (fun r=>r.all AV.storable) then
     some (.slice b off (len + xs.length) (some c),.set b (.row (E.sz elem) (rows.take (off + len) ++ xs ++ rows.drop (off + len + xs.length)))) else none
    else bif roomOk E elem (len + xs.length) then
     some (.slice n 0 (len + xs.length) none,.new (.row (E.sz elem) ((rows.drop off).take len ++ xs))) else none
   else none
  | _=>none
 | _=>none
@[go_sem] theorem aappend_T (st xt:TypeId) (s x:AV):aappend E h n st xt s x = obind (apT E st xt) fun e=>obind (arowsOf h (E.sz e) x) fun xs=>apS E h n e xs s:=by
 unfold aappend apT
 cases E.und st with
 | none=>rfl
 | some d=>cases E.und xt with
  | none=>cases d<;>rfl
  | some dx=>
   cases d<;>try rfl
   rename_i e
   simp only
   cases (isIntDesc dx || !(E.zero e).isSome || !(Nat.blt 0 (E.sz e))) with
   | true=>rfl
   | false=>
    simp only [cond_false,obind]
    cases arowsOf h (E.sz e) x with
    | none=>rfl
    | some xs=>cases s<;>rfl
@[go_sem] theorem apS_nil (e:TypeId) (y:List AV) (ys:List (List AV)):apS E h n e (y :: ys) .nilslice = bif roomOk E e (y :: ys).length then some (.slice n 0 (y :: ys).length none,.new (.row (E.sz e) (y :: ys))) else none:=by rfl
@[go_sem] theorem apS_nil0 (e:TypeId):apS E h n e [] .nilslice = some (.nilslice,.none):=by rfl
@[go_sem] theorem apS_grow (e:TypeId) (xs:List (List AV)) (b o l:Nat):apS E h n e xs (.slice b o l none) = obind (rowO (h b)) fun kr=>
 bif decide (kr.1 = E.sz e) then (bif decide (o + l = kr.2.length) then (bif roomOk E e (l + xs.length) && xs.all (fun r=>r.all AV.storable) then some (.slice n 0 (l + xs.length) none,.kill b (.row (E.sz e) (kr.2.drop o ++ xs))) else none)
  else (bif decide (o + l ≤ kr.2.length) && roomOk E e (l + xs.length) && xs.all (fun r=>r.all AV.storable) then some (.slice n 0 (l + xs.length) none,.kill b (.row (E.sz e) ((kr.2.drop o).take l ++ xs))) else none)) else none:=by
 simp only [apS]
 cases hb:h b with
 | none=>simp only [hb];rfl
 | some ob=>
  cases ob<;>simp only [hb,rowO,obind,beqN,bleD]
  rename_i kk rows
  have e1:Nat.beq (o + l) rows.length = decide (o + l = rows.length):=by rw [nbeq,beqN]
  rw [e1]
  by_cases h1:o + l = rows.length
  ·rw [decide_eq_true h1,decide_eq_true (by omega:o + l ≤ rows.length)]
   cases decide (kk = E.sz e)<;>rfl
  ·rw [decide_eq_false h1]
   cases decide (kk = E.sz e)<;>cases decide (o + l ≤ rows.length)<;>rfl
@[go_sem] theorem apS_slice (e:TypeId) (xs:List (List AV)) (b o l c:Nat):apS E h n e xs (.slice b o l (some c)) = obind (rowO (h b)) fun kr=>
 bif decide (kr.1 = E.sz e) && decide (o + l ≤ kr.2.length) then (bif decide (l + xs.length ≤ c) then
  (bif decide (o + l + xs.length ≤ kr.2.length) && xs.all (fun r=>r.all AV.storable) then some (.slice b o (l + xs.length) (some c),.set b (.row (E.sz e) (kr.2.take (o + l) ++ xs ++ kr.2.drop (o + l + xs.length)))) else none)
  else (bif roomOk E e (l + xs.length) then some (.slice n 0 (l + xs.length) none,.new (.row (E.sz e) ((kr.2.drop o).take l ++ xs))) else none)) else none:=by
 simp only [apS]
 cases hb:h b with
 | none=>simp only [hb];rfl
 | some ob=>cases ob<;>simp only [hb,rowO,obind,beqN,bleD]
theorem room_ok {e:TypeId} {k:Nat} (hk:k ≤ 1000000000) (hb:E.bytes e ≤ 1000):roomOk E e k = true:=by
 unfold roomOk
 rw [decide_eq_true (by omega),Bool.true_and,decide_eq_true_eq]
 calc E.bytes e * (2 * k + 192) ≤ 1000 * (2 * 1000000000 + 192):=Nat.mul_le_mul hb (by omega)
  _ ≤ 281474976710656:=by decide
end
/- The length of a block's rows, by hand. -/
@[go_sem] theorem tmod_3 (a:Nat):(a:Int).tmod 3 = ((a % 3:Nat):Int):=by rfl
@[go_sem] theorem tmod_4 (a:Nat):(a:Int).tmod 4 = ((a % 4:Nat):Int):=by rfl
@[go_sem] theorem tdiv_4 (a:Nat):(a:Int).tdiv 4 = ((a / 4:Nat):Int):=by rfl
theorem wB {n:Nat} (h:n < 256):IntKind.u8.wrap (n:Int) = n:=IntWalk.u8_in _ ⟨by omega,by omega⟩
theorem wI1 {n:Nat} (h:n < 9223372036854775807):IntKind.i64.wrap ((n:Int) + 1) = ((n + 1:Nat):Int):=by rw [w64 (by omega) (by omega)];rfl
theorem piBelow_ap (m b:Nat):piBelow m b = bif decide (b < m) then some b else none:=by simp only [piBelow,bltD]
attribute [go_sem] piBelow_ap
/-! ### bytes to a string -/
section
variable {E:Env} {h:FHeap} {s d:TypeId}
end
attribute [go_sem] List.length_replicate List.map_replicate List.length_append List.flatMap_append List.map_append
/-! ### calls that only read -/
def FlatO (o:Option AObj):Prop:=∀ π,o.map (renObj π) = o
theorem FlatO.row {k:Nat} {rows:List (List AV)} (h:FlatR rows):FlatO (some (.row k rows)):=fun π=>by
 simp only [Option.map_some,renObj,renR_flat π h]
theorem HeapF_map (f:Nat → Option AObj) (σ:List Nat) (j:Nat):HeapF (σ.map f) j = (σ[j]?).bind f:=by
 simp only [HeapF,List.getElem?_map]
 cases σ[j]?<;>simp
theorem putBack_read {σ:List Nat} {n:Nat} {H:Heap} (hf:∀ b ∈ σ,FlatO (HeapF H b)):∀ (b:Nat) (H2:Heap),(∀ i,H2[i]? = H[b + i]?) → putBack σ n (σ.map (HeapF H)) b H2 = H2
 | _,[],_=>rfl
 | b,o :: r,hh=>by
  have ih:=putBack_read hf (n:=n) (b + 1) r (fun i=>by
   have:=hh (i + 1)
   rw [List.getElem?_cons_succ] at this
   rw [this]
   congr 1
   omega)
  simp only [putBack,ih]
  congr 1
  cases hx:σ.idxOf? b with
  | none=>rfl
  | some j=>
   simp only
   have hj:=idxOf_get hx
   have hm:b ∈ σ:=List.mem_of_getElem? hj
   rw [HeapF_map,hj]
   simp only [Option.bind_some]
   rw [hf b hm _]
   have h0:=hh 0
   simp only [List.getElem?_cons_zero,Nat.add_zero] at h0
   simp [HeapF,← h0]
theorem callV_read {E:Env} {draw:Bool} {call:CallF} {g:FuncId} {fs cs ar args:List AV} {H:Heap} {v:AV} (σ:List Nat) (hx:E.ext g = false) (hf:(E.fn g).isSome = true) (he:fs ++ ar ++ cs = args)
 (hσ:reach H 1000000 (refsL args) [] = σ) (hn:nodupB σ = true) (hl:(σ.all fun b=>decide (b < H.length)) = true) (hfl:∀ b ∈ σ,FlatO (HeapF H b))
 {args':List AV} (ha:args.map (ren (piOf σ)) = args') {H0:Heap} (hH:σ.map (HeapF H) = H0) (hr:call g args' H0 = some (v,H0)) (hv:refs v = []) :
 callV E draw call (.func (.func g) fs cs) ar H = some (v,H,σ):=by
 have hs:smallH H σ (piOf σ) = H0:=by
  rw [← hH]
  unfold smallH
  exact List.map_congr_left fun b hb=>hfl b hb _
 have hc:=callLoc_eq (call g) args H hσ hn hl ha hs hr
 have e1:ren (backOf σ H.length) v = v:=ren_flat _ v hv
 have e2:putBack σ H.length H0 0 H = H:=by
  rw [← hH];exact putBack_read hfl 0 H (fun i=>by rw [Nat.zero_add])
 have e3:H0.drop σ.length = []:=by rw [← hH];simp
 rw [e1,e2,e3,List.map_nil,List.append_nil] at hc
 exact callV_eq hx hf he hc rfl
end Go.Ax
/- AxMore: facts that all say 'true'; loops over any states; what a heap's values reach. -/
namespace Go.Ax
theorem sem_factT {E:Env} {M:List Fact} (hT:∀ y ∈ M,y.v = .bool true) {x:Fact} (hx:x ∈ M):sem E M x.g x.args [] = some (.bool true,[]):=by
 have h:sem E M x.g x.args [] = some (x.v,[]):=sem_iff.2 (.fact x hx (fun y hy _ _=>by rw [hT y hy,hT x hx]))
 rw [hT x hx] at h
 exact h
/-! ### what is reached -/
theorem sum_erase {f:Nat → Nat}:∀ {L:List Nat} {b:Nat},b ∈ L → (L.map f).sum = f b + ((L.erase b).map f).sum
 | [],b,h=>by simp at h
 | a :: L,b,h=>by
  by_cases hab:a = b
  ·subst hab;simp
  ·have hb:b ∈ L:=by simpa [Ne.symm hab] using h
   rw [List.erase_cons_tail (by simpa using hab)]
   simp only [List.map_cons,List.sum_cons,sum_erase hb]
   omega
structure Reached (H:Heap) (init σ:List Nat):Prop where
 nodup:σ.Nodup
 start:∀ b ∈ init,b ∈ σ
 closed:∀ b ∈ σ,∀ c ∈ refsO (HeapF H b),c ∈ σ
 least:∀ T:Nat → Prop,(∀ b ∈ init,T b) → (∀ b,T b → ∀ c ∈ refsO (HeapF H b),T c) → ∀ b ∈ σ,T b
theorem reach_go (H:Heap):∀ (n:Nat) (todo acc L:List Nat),acc.Nodup → (∀ b ∈ acc,∀ c ∈ refsO (HeapF H b),c ∈ acc ∨ c ∈ todo) → (∀ b ∈ todo,b ∈ acc ∨ b ∈ L) → (∀ b ∈ L,∀ c ∈ refsO (HeapF H b),c ∈ acc ∨ c ∈ L) →
 todo.length + (L.map fun b=>(refsO (HeapF H b)).length).sum < n →
 (reach H n todo acc).Nodup ∧ (∀ b ∈ acc,b ∈ reach H n todo acc) ∧ (∀ b ∈ todo,b ∈ reach H n todo acc) ∧ (∀ b ∈ reach H n todo acc,∀ c ∈ refsO (HeapF H b),c ∈ reach H n todo acc) ∧
 ∀ T:Nat → Prop,(∀ b ∈ acc,T b) → (∀ b ∈ todo,T b) → (∀ b,T b → ∀ c ∈ refsO (HeapF H b),T c) → ∀ b ∈ reach H n todo acc,T b
 | 0,todo,acc,L,_,_,_,_,hn=>by omega
 | n + 1,[],acc,L,h1,h2,h3,h4,hn=>by
  unfold reach
  refine ⟨List.pairwise_reverse.2 (h1.imp fun h=>Ne.symm h),by simp,by simp,?_,?_⟩
  ·intro b hb c hc
   rcases h2 b (by simpa using hb) c hc with h|h
   ·simpa using h
   ·simp at h
  ·intro T t1 t2 t3 b hb;exact t1 b (by simpa using hb)
 | n + 1,b :: todo,acc,L,h1,h2,h3,h4,hn=>by
  unfold reach
  cases hc:containsN acc b with
  | true=>
   have hb:b ∈ acc:=containsN_iff.1 hc
   simp only [cond_true]
   obtain ⟨r1,r2,r3,r4,r5⟩:=reach_go H n todo acc L h1 (fun x hx c hcc=>by
    rcases h2 x hx c hcc with h|h
    ·exact .inl h
    ·simp only [List.mem_cons] at h
     rcases h with rfl|h
     ·exact .inl hb
     ·exact .inr h) (fun x hx=>h3 x (by simp [hx])) h4 (by simp only [List.length_cons] at hn;omega)
   refine ⟨r1,r2,?_,r4,?_⟩
   ·intro x hx
    simp only [List.mem_cons] at hx
    rcases hx with rfl|hx
    ·exact r2 _ hb
    ·exact r3 x hx
   ·intro T t1 t2 t3;exact r5 T t1 (fun x hx=>t2 x (by simp [hx])) t3
  | false=>
   have hb:b ∉ acc:=fun h=>by rw [containsN_iff.2 h] at hc;cases hc
   simp only [cond_false]
   have hbL:b ∈ L:=(h3 b (by simp)).resolve_left hb
   have hs:=sum_erase (f:=fun b=>(refsO (HeapF H b)).length) hbL
   obtain ⟨r1,r2,r3,r4,r5⟩:=reach_go H n (refsO (HeapF H b) ++ todo) (b :: acc) (L.erase b) (List.nodup_cons.2 ⟨hb,h1⟩) (fun x hx c hcc=>by
    simp only [List.mem_cons] at hx ⊢
    rcases hx with rfl|hx
    ·exact .inr (by simp [hcc])
    ·rcases h2 x hx c hcc with h|h
     ·exact .inl (.inr h)
     ·simp only [List.mem_cons] at h
      rcases h with rfl|h
      ·exact .inl (.inl rfl)
      ·exact .inr (by simp [h])) (fun x hx=>by
    have hx':x ∈ acc ∨ x ∈ L:=by
     rw [List.mem_append] at hx
     rcases hx with hx|hx
     ·exact h4 b hbL x hx
     ·exact h3 x (by simp [hx])
    by_cases hxb:x = b
    ·exact .inl (by simp [hxb])
    ·rcases hx' with h|h
     ·exact .inl (by simp [h])
     ·exact .inr ((List.mem_erase_of_ne hxb).2 h)) (fun x hx c hcc=>by
    have:=h4 x (List.mem_of_mem_erase hx) c hcc
    by_cases hxb:c = b
    ·exact .inl (by simp [hxb])
    ·rcases this with h|h
     ·exact .inl (by simp [h])
     ·exact .inr ((List.mem_erase_of_ne hxb).2 h)) (by
    simp only [List.length_cons] at hn
    rw [hs] at hn
    simp only [List.length_append]
    omega)
   refine ⟨r1,fun x hx=>r2 x (by simp [hx]),?_,r4,?_⟩
   ·intro x hx
    simp only [List.mem_cons] at hx
    rcases hx with rfl|hx
    ·exact r2 _ (by simp)
    ·exact r3 x (by simp [hx])
   ·intro T t1 t2 t3
    refine r5 T ?_ ?_ t3
    ·intro x hx
     simp only [List.mem_cons] at hx
     rcases hx with rfl|hx
     ·exact t2 _ (by simp)
     ·exact t1 x hx
    ·intro x hx
     rw [List.mem_append] at hx
     rcases hx with hx|hx
     ·exact t3 b (t2 b (by simp)) x hx
     ·exact t2 x (by simp [hx])
theorem reach_spec {H:Heap} {init:List Nat} (S:List Nat) (h1:∀ b ∈ init,b ∈ S) (h2:∀ b ∈ S,∀ c ∈ refsO (HeapF H b),c ∈ S)
 (hn:init.length + (S.map fun b=>(refsO (HeapF H b)).length).sum < 1000000):Reached H init (reach H 1000000 init []):=by
 obtain ⟨r1,_,r3,r4,r5⟩:=reach_go H 1000000 init [] S List.nodup_nil (fun b hb=>by simp at hb) (fun b hb=>.inr (h1 b hb)) (fun b hb c hc=>.inr (h2 b hb c hc)) hn
 exact ⟨r1,r3,r4,fun T t1 t2=>r5 T (fun b hb=>by simp at hb) t1 t2⟩
theorem nodupB_of:∀ {l:List Nat},l.Nodup → nodupB l = true
 | [],_=>rfl
 | a :: l,h=>by
  rw [List.nodup_cons] at h
  have hc:containsN l a = false:=by
   cases hc:containsN l a with
   | false=>rfl
   | true=>exact absurd (containsN_iff.1 hc) h.1
  rw [nodupB_cons,hc,nodupB_of h.2];rfl
structure Gc (m:Nat) (F:Frm) (H:Heap) (R:Nat → Prop) (π:Nat → Option Nat) (H1:Heap):Prop where
 low:∀ b,b < m → π b = some b
 inj:∀ a b c,π a = some c → π b = some c → a = b
 refs:∀ b ∈ refsL (F.map (·.2)),R b
 lows:∀ b,b < m → ∀ c ∈ refsO (HeapF H b),R c
 closed:∀ b,R b → ∀ c ∈ refsO (HeapF H b),R c
 least:∀ T:Nat → Prop,(∀ b ∈ refsL (F.map (·.2)),T b) → (∀ b,b < m → ∀ c ∈ refsO (HeapF H b),T c) → (∀ b,T b → ∀ c ∈ refsO (HeapF H b),T c) → ∀ b,R b → T b
 here:∀ b,R b → ∃ c,π b = some c
 heap:∀ b c,π b = some c → HeapF H1 c = (HeapF H b).map (renObj π)
 len:∀ T:List Nat,(∀ b,R b → m ≤ b → b ∈ T) → H1.length ≤ m + T.length
theorem low_refs {m:Nat} {H:Heap} {c:Nat}:c ∈ (H.take m).flatMap refsO ↔ ∃ b,b < m ∧ c ∈ refsO (HeapF H b):=by
 simp only [List.mem_flatMap]
 constructor
 ·rintro ⟨o,ho,hc⟩
  obtain ⟨b,hb⟩:=List.mem_iff_getElem?.1 ho
  rw [List.getElem?_take] at hb
  split at hb
  case isFalse=>cases hb
  rename_i hlt
  refine ⟨b,hlt,?_⟩
  simp only [HeapF,hb,Option.join_some]
  exact hc
 ·rintro ⟨b,hlt,hc⟩
  cases hb:H[b]? with
  | none=>simp [HeapF,hb,refsO] at hc
  | some o=>
   refine ⟨o,List.mem_iff_getElem?.2 ⟨b,by rw [List.getElem?_take,if_pos hlt,hb]⟩,?_⟩
   simpa [HeapF,hb] using hc
theorem len_sub:∀ {l T:List Nat},l.Nodup → (∀ b ∈ l,b ∈ T) → l.length ≤ T.length
 | [],_,_,_=>by simp
 | a :: l,T,hnd,hsub=>by
  rw [List.nodup_cons] at hnd
  have ha:a ∈ T:=hsub a (by simp)
  have:=len_sub (l:=l) (T:=T.erase a) hnd.2 (fun b hb=>(List.mem_erase_of_ne (fun e=>hnd.1 (by rw [← e];exact hb))).2 (hsub b (by simp [hb])))
  rw [List.length_erase_of_mem ha] at this
  have:0 < T.length:=List.length_pos_of_mem ha
  simp only [List.length_cons];omega
theorem gc_gen {m:Nat} {keep:List Nat} {F:Frm} {H:Heap} (hm:m ≤ H.length) (S:List Nat) (h1:∀ b ∈ refsL ((keepF keep F).map (·.2)),b ∈ S) (h2:∀ b,b < m → ∀ c ∈ refsO (HeapF H b),c ∈ S) (h3:∀ b ∈ S,∀ c ∈ refsO (HeapF H b),c ∈ S)
 (hn:((H.take m).flatMap refsO).length + (refsL ((keepF keep F).map (·.2))).length + (S.map fun b=>(refsO (HeapF H b)).length).sum < 1000000) :
 ∃ (R:Nat → Prop) (π:Nat → Option Nat) (H1:Heap),gcD m keep F H = some (renF π (keepF keep F),H1) ∧ Gc m (keepF keep F) H R π H1 ∧ m ≤ H1.length:=by
 have hr:=reach_spec (H:=H) (init:=(H.take m).flatMap refsO ++ refsL ((keepF keep F).map (·.2))) S (fun b hb=>by
  rw [List.mem_append] at hb
  rcases hb with hb|hb
  ·obtain ⟨a,ha,hc⟩:=low_refs.1 hb;exact h2 a ha b hc
  ·exact h1 b hb) h3 (by rw [List.length_append];exact hn)
 generalize hρ:reach H 1000000 ((H.take m).flatMap refsO ++ refsL ((keepF keep F).map (·.2))) [] = ρ at hr
 have hσ:gcIds m (keepF keep F) H = ρ.filter fun b=>decide (m ≤ b):=by rw [gcIds_eq,hρ]
 have hnd:(ρ.filter fun b=>decide (m ≤ b)).Nodup:=hr.nodup.filter _
 have hmem:∀ b,b ∈ (ρ.filter fun b=>decide (m ≤ b)) ↔ b ∈ ρ ∧ m ≤ b:=fun b=>by rw [List.mem_filter];simp
 have hml:(H.take m).length = m:=by simp;omega
 have hlen:(gcH m (ρ.filter fun b=>decide (m ≤ b)) H).length = m + (ρ.filter fun b=>decide (m ≤ b)).length:=by
  rw [gcH_eq];simp [smallH];omega
 refine ⟨(·∈ ρ),gcPi m (ρ.filter fun b=>decide (m ≤ b)),gcH m (ρ.filter fun b=>decide (m ≤ b)) H,?_,?_,by rw [hlen];omega⟩
 ·rw [gcD_eq,hσ,nodupB_of hnd,decide_eq_true hm]
  have:(ρ.filter fun b=>decide (m ≤ b)).all (fun b=>decide (m ≤ b)) = true:=by
   rw [List.all_eq_true];intro b hb;simpa using ((hmem b).1 hb).2
  rw [this];rfl
 ·have hπ:∀ b,gcPi m (ρ.filter fun b=>decide (m ≤ b)) b = if b < m then some b else ((ρ.filter fun b=>decide (m ≤ b)).idxOf? b).map (m + ·):=by
   intro b;rw [gcPi_ap];by_cases h:b < m<;>simp [h]
  refine ⟨fun b hb=>by rw [hπ,if_pos hb],?_,fun b hb=>hr.start b (by simp [hb]),fun b hb c hc=>hr.start c (by rw [List.mem_append];exact .inl (low_refs.2 ⟨b,hb,hc⟩)),fun b hb c hc=>hr.closed b hb c hc,?_,?_,?_,?_⟩
  ·intro a b c ha hb
   rw [hπ] at ha hb
   split at ha<;>split at hb
   ·cases ha;cases hb;rfl
   ·cases ha;obtain ⟨j,hj,e⟩:=map_some_inv hb;omega
   ·cases hb;obtain ⟨j,hj,e⟩:=map_some_inv ha;omega
   ·obtain ⟨i,hi,e1⟩:=map_some_inv ha
    obtain ⟨j,hj,e2⟩:=map_some_inv hb
    have g1:=idxOf_get hi
    have g2:=idxOf_get hj
    obtain rfl:i = j:=by omega
    rw [g1] at g2;exact Option.some.inj g2
  ·intro T t1 t2 t3 b hb
   refine hr.least T (fun x hx=>?_) t3 b hb
   rw [List.mem_append] at hx
   rcases hx with hx|hx
   ·obtain ⟨a,ha,hc⟩:=low_refs.1 hx;exact t2 a ha x hc
   ·exact t1 x hx
  ·intro b hb
   rw [hπ]
   split
   ·exact ⟨_,rfl⟩
   ·rename_i h
    have hbf:=(hmem b).2 ⟨hb,by omega⟩
    obtain ⟨j,hj⟩:=List.mem_iff_getElem?.1 hbf
    rw [idxOf_of_get hnd hj]
    exact ⟨_,rfl⟩
  ·intro b c hbc
   have hbc':=hbc
   rw [hπ] at hbc'
   rw [gcH_eq]
   split at hbc'
   ·rename_i h
    cases hbc'
    simp only [HeapF]
    rw [List.getElem?_append_left (by simp;omega),List.getElem?_map,List.getElem?_take,if_pos h]
    cases H[b]? with
    | none=>rfl
    | some o=>rfl
   ·rename_i h
    obtain ⟨j,hj,rfl⟩:=map_some_inv hbc'
    have hg:=idxOf_get hj
    simp only [HeapF]
    rw [List.getElem?_append_right (by simp only [List.length_map,hml];omega)]
    simp only [List.length_map,hml,Nat.add_sub_cancel_left,smallH,List.getElem?_map,hg,Option.map_some,Option.join_some]
    rfl
  ·intro T hT
   rw [hlen]
   have:(ρ.filter fun b=>decide (m ≤ b)).length ≤ T.length:=by
    have hsub:∀ b ∈ (ρ.filter fun b=>decide (m ≤ b)),b ∈ T:=fun b hb=>hT b ((hmem b).1 hb).1 ((hmem b).1 hb).2
    exact len_sub hnd hsub
   omega
end Go.Ax
/- AxGrow: grown slices; calls that read one block. -/
namespace Go.Ax
def grV (b:Nat):List (List AV) → AV|[]=>.nilslice|_ :: rs=>.slice b 0 (rs.length + 1) none
def grH (k:Nat):List (List AV) → Heap|[]=>[]|r :: rs=>[some (.row k (r :: rs))]
theorem grV_nil (b:Nat):grV b [] = .nilslice:=by rfl
theorem grH_nil (k:Nat):grH k [] = []:=by rfl
theorem grV_cons (b:Nat) (r:List AV) (rs:List (List AV)):grV b (r :: rs) = .slice b 0 (rs.length + 1) none:=by rfl
theorem grH_cons (k:Nat) (r:List AV) (rs:List (List AV)):grH k (r :: rs) = [some (.row k (r :: rs))]:=by rfl
theorem grV_snoc (b:Nat) (l:List (List AV)) (x:List AV):grV b (l ++ [x]) = .slice b 0 (l.length + 1) none:=by cases l<;>simp [grV]
theorem reach_one {H:Heap} {b:Nat} (hr:refsO (HeapF H b) = []):reach H 1000000 [b] [] = [b]:=by
 have e1:∀ n,reach H (n + 2) [b] [] = [b]:=by
  intro n
  unfold reach
  simp only [containsN,cond_false,hr,List.append_nil]
  unfold reach
  rfl
 exact e1 999998
theorem callV_one {E:Env} {draw:Bool} {call:CallF} {g:FuncId} {fs cs ar args:List AV} {H:Heap} {v:AV} {b:Nat} {o:AObj} (hx:E.ext g = false) (hf:(E.fn g).isSome = true) (he:fs ++ ar ++ cs = args)
 (hb:HeapF H b = some o) (ho:refsO (some o) = []) (hfl:FlatO (some o)) (hargs:refsL args = [b]) {args':List AV} (ha:args.map (ren (piOf [b])) = args') (hr:call g args' [some o] = some (v,[some o])) (hv:refs v = []) :
 callV E draw call (.func (.func g) fs cs) ar H = some (v,H,[b]):=by
 have hlt:b < H.length:=by
  unfold HeapF at hb
  cases hh:H[b]? with
  | none=>rw [hh] at hb;cases hb
  | some x=>exact (List.getElem?_eq_some_iff.1 hh).1
 refine callV_read [b] hx hf he (by rw [hargs];exact reach_one (by rw [hb];exact ho)) rfl (by simpa using hlt) ?_ ha (by simp only [List.map_cons,List.map_nil,hb]) hr hv
 intro c hc
 simp only [List.mem_singleton] at hc
 subst hc;rw [hb];exact hfl
theorem refsO_flat {k:Nat} {rows:List (List AV)} (h:FlatR rows):refsO (some (.row k rows)) = []:=by
 simp only [refsO];exact refs_flatR h
theorem heapF_lt {H:Heap} {b:Nat} {o:AObj} (hb:HeapF H b = some o):b < H.length:=by
 unfold HeapF at hb
 cases hh:H[b]? with
 | none=>rw [hh] at hb;cases hb
 | some x=>exact (List.getElem?_eq_some_iff.1 hh).1
theorem set_same {H:Heap} {b:Nat} {o:AObj} (hb:HeapF H b = some o):H.set b (some o) = H:=by
 have hlt:=heapF_lt hb
 unfold HeapF at hb
 rw [List.getElem?_eq_getElem hlt] at hb
 simp only [Option.join_some] at hb
 rw [← hb];exact List.set_getElem_self hlt
theorem putBack_one (b n:Nat) (o:Option AObj) (ho:∀ π,o.map (renObj π) = o):∀ (s:Nat) (H:Heap),s ≤ b → putBack [b] n [o] s H = H.set (b - s) o
 | s,[],_=>by simp [putBack]
 | s,x :: H,hs=>by
  simp only [putBack]
  by_cases hsb:s = b
  ·subst hsb
   have e:([s]:List Nat).idxOf? s = some 0:=by simp [List.idxOf?_cons]
   have hrest:∀ (t:Nat) (H:Heap),s < t → putBack [s] n [o] t H = H:=by
    intro t H
    induction H generalizing t with
    | nil=>intro _;rfl
    | cons y H ih=>
     intro ht
     have e2:([s]:List Nat).idxOf? t = none:=by simp [List.idxOf?_cons];omega
     simp only [putBack,e2,ih (t + 1) (by omega)]
   simp only [e,hrest (s + 1) H (by omega),Nat.sub_self,List.set_cons_zero]
   congr 1
   exact ho _
  ·have e:([b]:List Nat).idxOf? s = none:=by simp [List.idxOf?_cons];omega
   have e2:b - s = (b - (s + 1)) + 1:=by omega
   rw [e2,List.set_cons_succ]
   simp only [e,putBack_one b n o ho (s + 1) H (by omega)]
theorem callV_one' {E:Env} {draw:Bool} {call:CallF} {g:FuncId} {fs cs ar args:List AV} {H:Heap} {v v':AV} {b:Nat} {o o':AObj} (hx:E.ext g = false) (hf:(E.fn g).isSome = true) (he:fs ++ ar ++ cs = args)
 (hb:HeapF H b = some o) (ho:refsO (some o) = []) (hfl:FlatO (some o)) (hargs:refsL args = [b]) {args':List AV} (ha:args.map (ren (piOf [b])) = args') (hr:call g args' [some o] = some (v,[some o'])) (hfl':FlatO (some o')) (hv:ren (backOf [b] H.length) v = v') :
 callV E draw call (.func (.func g) fs cs) ar H = some (v',H.set b (some o'),[b]):=by
 have hlt:=heapF_lt hb
 have hc:=callLoc_eq (call g) args H (σ:=[b]) (by rw [hargs];exact reach_one (by rw [hb];exact ho)) rfl (by simpa using hlt) ha (H0:=[some o]) (by simp only [smallH,List.map_cons,List.map_nil,hb];congr 1;exact hfl _) hr
 rw [hv,putBack_one b _ _ hfl' 0 H (Nat.zero_le _)] at hc
 simp only [Nat.sub_zero,List.drop_succ_cons,List.drop_zero,List.map_nil,List.append_nil,List.length_cons,List.length_nil] at hc
 exact callV_eq hx hf he hc (by simp)
theorem ren_slice1 (b o l:Nat) (c:Option Nat):ren (piOf [b]) (.slice b o l c) = .slice 0 o l c:=by simp [ren,piOf]
theorem back_slice1 (b o n l:Nat) (c:Option Nat):ren (backOf [b] n) (.slice 0 o l c) = .slice b o l c:=by rfl
/-! ### slices of slices -/
def inB (i:Int) (n:Nat):Bool:=decide (0 ≤ i) && decide (i ≤ (n:Int))
@[go_sem] theorem inB_nat (a n:Nat):inB (a:Int) n = decide (a ≤ n):=by
 unfold inB
 rw [decide_eq_true (by omega),Bool.true_and,Bool.eq_iff_iff,decide_eq_true_eq,decide_eq_true_eq]
 omega
@[go_sem] theorem inB_0 (n:Nat):inB 0 n = true:=by simp [inB]
theorem abound_i {k:IntKind} {i:Int} {n d:Nat}:abound (some (.int k i)) n d = bif inB i n then some i.toNat else none:=by rfl
attribute [go_sem] Option.map_some Option.map_none
section
variable {E:Env} {h:FHeap} {t:TypeId}
theorem aslice_T {x:AV} {lo hi mx:Option AV} (hs:slT E t = none) (hx:∀ s,x ≠ .str s):aslice E h t x lo hi mx = none:=by
 unfold aslice
 unfold slT at hs
 cases hu:E.und t with
 | none=>rfl
 | some d=>
  rw [hu] at hs
  cases d<;>first|(cases hs;done)|(cases x<;>first|rfl|exact absurd rfl (hx _))
@[go_sem] theorem aslice_nil3 {k k':IntKind} {i j:Int}:aslice E h t .nilslice none (some (.int k i)) (some (.int k' j)) = obind (slT E t) fun e=>bif isT E e && inB j 0 && inB i j.toNat then some .nilslice else none:=by
 cases hs:slT E t with
 | none=>exact aslice_T hs (fun _ h=>by cases h)
 | some e=>
  simp only [aslice,slT_iff.1 hs,obind,abound_i,isT]
  cases (E.und e).isSome<;>cases inB j 0<;>first|rfl|(simp only [cond_true,Bool.true_and];cases inB i j.toNat<;>rfl)
@[go_sem] theorem aslice_sl3 {b o n:Nat} {c:Option Nat} {k k':IntKind} {i j:Int}:aslice E h t (.slice b o n c) none (some (.int k i)) (some (.int k' j)) = obind (slT E t) fun e=>obind (rowO (h b)) fun kr=>bif isT E e && decide (kr.1 = E.sz e) && inB j (capAtLeast n c) && inB i j.toNat then some (.slice b o i.toNat (some j.toNat)) else none:=by
 cases hs:slT E t with
 | none=>exact aslice_T hs (fun _ h=>by cases h)
 | some e=>
  simp only [aslice,slT_iff.1 hs,obind,abound_i,isT]
  cases hb:h b with
  | none=>cases (E.und e).isSome<;>rfl
  | some ob=>cases ob with
   | map=>cases (E.und e).isSome<;>rfl
   | siter=>cases (E.und e).isSome<;>rfl
   | uset=>cases (E.und e).isSome<;>rfl
   | miter=>cases (E.und e).isSome<;>rfl
   | yloop=>cases (E.und e).isSome<;>rfl
   | row kk rows=>
    simp only [rowO,beqN]
    cases (E.und e).isSome<;>cases decide (kk = E.sz e)<;>cases inB j (capAtLeast n c)<;>first|rfl|(simp only [cond_true,Bool.true_and];cases inB i j.toNat<;>rfl)
end
attribute [go_sem] Nat.le_refl Int.toNat_natCast
@[go_sem] theorem take_map_len {α β:Type} (f:α → β) (l:List α):(l.map f).take l.length = l.map f:=by rw [← List.length_map (f:=f),List.take_length]
attribute [go_sem] List.take_length
@[go_sem] theorem capAtLeast_some (n c:Nat):capAtLeast n (some c) = c:=by rfl
@[go_sem] theorem capAtLeast_none (n:Nat):capAtLeast n none = n:=by rfl
end Go.Ax
/- AxTwo: slices of slices that grow: one block of rows, a block for each that is not empty. -/
namespace Go.Ax
theorem heapF_lo {H L:Heap} {c:Nat} (h:(c < H.length) = True):HeapF (H ++ L) c = HeapF H c:=by
 unfold HeapF;rw [List.getElem?_append_left (of_eq_true h)]
theorem heapF_hi {H L:Heap} (i:Nat):HeapF (H ++ L) (H.length + i) = HeapF L i:=by
 unfold HeapF;rw [List.getElem?_append_right (by omega)];congr 1;rw [Nat.add_sub_cancel_left]
theorem heapF_hi0 {H L:Heap}:HeapF (H ++ L) H.length = HeapF L 0:=heapF_hi 0
theorem heapF_set {H:Heap} {a c:Nat} {o:Option AObj}:HeapF (H.set a o) c = if a = c ∧ a < H.length then o else HeapF H c:=by
 unfold HeapF
 rw [List.getElem?_set]
 by_cases h:a = c
 ·subst h
  by_cases hl:a < H.length
  ·simp [hl]
  ·simp [hl]
 ·simp [h]
theorem heapF_set_ne {H:Heap} {a c:Nat} {o:Option AObj} (h:a ≠ c):HeapF (H.set a o) c = HeapF H c:=by rw [heapF_set,if_neg (fun e=>h e.1)]
theorem heapF_setF {H:Heap} {a c:Nat} {o:Option AObj} (h:(a = c) = False):HeapF (H.set a o) c = HeapF H c:=heapF_set_ne (fun e=>h ▸ e)
theorem heapF_set_eq {H:Heap} {a:Nat} {o:Option AObj} (h:a < H.length):HeapF (H.set a o) a = o:=by rw [heapF_set,if_pos ⟨rfl,h⟩]
def slV (b:Nat) (c:Option Nat):List (List AV) → AV|[]=>.nilslice|_ :: rs=>.slice b 0 (rs.length + 1) c
theorem slV_none (b:Nat) (f:List (List AV)):slV b none f = grV b f:=by cases f<;>rfl
theorem slV_ne (b:Nat) (c:Option Nat) {f:List (List AV)} (h:f ≠ []):slV b c f = .slice b 0 f.length c:=by cases f with|nil=>exact absurd rfl h|cons a r=>rfl
theorem set_hi {H L:Heap} {o:Option AObj} (i:Nat):(H ++ L).set (H.length + i) o = H ++ L.set i o:=by
 rw [List.set_append_right _ _ (by omega),Nat.add_sub_cancel_left]
theorem set_hi0 {H L:Heap} {o:Option AObj}:(H ++ L).set H.length o = H ++ L.set 0 o:=set_hi 0
theorem set_lo {H L:Heap} {o:Option AObj} {a:Nat} (h:(a < H.length) = True):(H ++ L).set a o = H.set a o ++ L:=List.set_append_left _ _ (of_eq_true h)
theorem lt_add1 (n:Nat):(n < n + 1) = True:=by simp
theorem lt_add_s {a n k:Nat} (h:(a < n) = True):(a < n + k) = True:=by have:=of_eq_true h;simp;omega
def rows2 (ids:Nat → Nat) (cp:Nat → Option Nat) (fo:List (List (List AV))):List (List AV):=fo.mapIdx fun j f=>[slV (ids j) (cp j) f]
structure Two (H:Heap) (b k:Nat) (ids:Nat → Nat) (cp:Nat → Option Nat) (fo:List (List (List AV))):Prop where
 top:HeapF H b = some (.row 1 (rows2 ids cp fo))
 sub:∀ (j:Nat) (f:List (List AV)),fo[j]? = some f → f ≠ [] → HeapF H (ids j) = some (.row k f) ∧ ids j ≠ b
 inj:∀ (i j:Nat) (f g:List (List AV)),fo[i]? = some f → fo[j]? = some g → f ≠ [] → g ≠ [] → ids i = ids j → i = j
 flat:∀ f ∈ fo,FlatR f
theorem rows2_get {ids:Nat → Nat} {cp:Nat → Option Nat} {fo:List (List (List AV))} {j:Nat} {f:List (List AV)} (h:fo[j]? = some f):(rows2 ids cp fo)[j]? = some [slV (ids j) (cp j) f]:=by
 unfold rows2;rw [List.getElem?_mapIdx,h];rfl
theorem rows2_len (ids:Nat → Nat) (cp:Nat → Option Nat) (fo:List (List (List AV))):(rows2 ids cp fo).length = fo.length:=by unfold rows2;simp
theorem slV_refs (b:Nat) (c:Option Nat) {f:List (List AV)}:refs (slV b c f) = if f = [] then [] else [b]:=by cases f<;>rfl
theorem rows2_refs {ids:Nat → Nat} {cp:Nat → Option Nat} {fo:List (List (List AV))} {c:Nat}:c ∈ (rows2 ids cp fo).flatMap refsL ↔ ∃ j f,fo[j]? = some f ∧ f ≠ [] ∧ c = ids j:=by
 unfold rows2
 simp only [List.mem_flatMap]
 constructor
 ·rintro ⟨r,hr,hc⟩
  obtain ⟨j,hj⟩:=List.mem_iff_getElem?.1 hr
  rw [List.getElem?_mapIdx] at hj
  cases hf:fo[j]? with
  | none=>rw [hf] at hj;cases hj
  | some f=>
   rw [hf] at hj
   cases hj
   simp only [refsL,slV_refs,List.append_nil] at hc
   split at hc
   ·simp at hc
   ·rename_i hne
    exact ⟨j,f,hf,hne,by simpa using hc⟩
 ·rintro ⟨j,f,hf,hne,rfl⟩
  refine ⟨[slV (ids j) (cp j) f],List.mem_iff_getElem?.2 ⟨j,by rw [List.getElem?_mapIdx,hf];rfl⟩,?_⟩
  simp [refsL,slV_refs,hne]
theorem slV_ren {π:Nat → Option Nat} {b c:Nat} {q:Option Nat} {f:List (List AV)} (h:f ≠ [] → π b = some c):ren π (slV b q f) = slV c q f:=by
 cases f with
 | nil=>rfl
 | cons a r=>simp only [slV,ren,h (by simp)]
section
variable {m:Nat} {F:Frm} {H H1:Heap} {R:Nat → Prop} {π:Nat → Option Nat} {b k:Nat} {ids:Nat → Nat} {cp:Nat → Option Nat} {fo:List (List (List AV))}
theorem sum_zero {H:Heap}:∀ (l:List Nat),(∀ c ∈ l,refsO (HeapF H c) = []) → (l.map fun c=>(refsO (HeapF H c)).length).sum = 0
 | [],_=>rfl
 | a :: l,h=>by simp only [List.map_cons,List.sum_cons,h a (by simp),List.length_nil,sum_zero l (fun c hc=>h c (by simp [hc]))]
theorem Two.clip (h:Two H b k ids cp fo) {j c:Nat} {f:List (List AV)} (hf:fo[j]? = some f) (h1:HeapF H1 b = some (.row 1 ((rows2 ids cp fo).set j [slV (ids j) (some c) f])))
 (h3:∀ c,c ≠ b → HeapF H1 c = HeapF H c):Two H1 b k ids (fun i=>if i = j then some c else cp i) fo:=by
 have hjl:j < fo.length:=(List.getElem?_eq_some_iff.1 hf).1
 refine ⟨?_,fun i g hg hne=>?_,h.inj,h.flat⟩
 ·rw [h1]
  congr 2
  apply List.ext_getElem?
  intro i
  unfold rows2
  rw [List.getElem?_set,List.length_mapIdx]
  by_cases hij:j = i
  ·subst hij
   simp only [if_true,hjl]
   rw [List.getElem?_mapIdx,hf]
   simp
  ·simp only [if_neg hij]
   rw [List.getElem?_mapIdx,List.getElem?_mapIdx]
   simp only [if_neg (Ne.symm hij)]
 ·obtain ⟨g1,g2⟩:=h.sub i g hg hne
  rw [h3 _ g2];exact ⟨g1,g2⟩
def slF (c:Option Nat):List (List AV) → AV|[]=>.nilslice|r :: rs=>.islice (r :: rs) c
theorem Two.frz (h:Two H b k ids cp fo) (c:Option Nat):frzV 0 true (frzD (HeapF H) 0 12) (.slice b 0 fo.length c) = some (.islice (fo.mapIdx fun j f=>[slF (cp j) f]) c):=by
 have key:∀ (rows:List (List AV)) (out:List (List AV)),rows.length = out.length → (∀ (j:Nat) r o,rows[j]? = some r → out[j]? = some o → frzL 0 false (frzD (HeapF H) 0 11) r = some o) → frzR 0 (frzD (HeapF H) 0 11) rows = some out:=by
  intro rows
  induction rows with
  | nil=>intro out hl _;cases out with|nil=>rfl|cons=>simp at hl
  | cons r rows ih=>
   intro out hl hh
   cases out with
   | nil=>simp at hl
   | cons o out=>
    rw [frzR_cons,hh 0 r o rfl rfl]
    simp only [obind]
    rw [ih out (by simpa using hl) (fun j r o hr ho=>hh (j + 1) r o (by simpa using hr) (by simpa using ho))]
 have e12:∀ x,frzD (HeapF H) 0 12 x = frzD (HeapF H) 0 (11 + 1) x:=fun _=>rfl
 rw [frz_slice,decide_eq_false (Nat.not_lt_zero b),cond_false,frzD_slice (eq_true (by omega:0 < 12)),h.top]
 simp only [rowO,obind,rows2_len,List.drop_zero,Nat.zero_add]
 rw [decide_eq_true (Nat.le_refl _),cond_true,← rows2_len ids cp fo,List.take_length]
 rw [key (rows2 ids cp fo) (fo.mapIdx fun j f=>[slF (cp j) f]) (by rw [rows2_len];simp)]
 intro j r o hr ho
 rw [List.getElem?_mapIdx] at ho
 cases hf:fo[j]? with
 | none=>rw [hf] at ho;cases ho
 | some f=>
  rw [hf] at ho
  rw [rows2_get hf] at hr
  cases ho;cases hr
  rw [frzL_cons,frzL_nil]
  cases f with
  | nil=>rfl
  | cons x xs=>
   obtain ⟨g1,_⟩:=h.sub j _ hf (by simp)
   have hfl:=h.flat _ (List.mem_of_getElem? hf)
   simp only [slV,slF]
   rw [frz_slice,decide_eq_false (Nat.not_lt_zero _),cond_false,frzD_slice (eq_true (by omega:0 < 11)),g1]
   simp only [rowO,obind,List.drop_zero,Nat.zero_add]
   rw [decide_eq_true (by simp),cond_true]
   have:List.take (xs.length + 1) (x :: xs) = x :: xs:=List.take_length (l:=x :: xs)
   rw [this,frzR_flat _ _ hfl]
end
theorem heapF_hiS {H L:Heap} {a:Nat} {o:Option AObj} (i:Nat):HeapF (H.set a o ++ L) (H.length + i) = HeapF L i:=by
 have:=heapF_hi (H:=H.set a o) (L:=L) i
 rwa [List.length_set] at this
section
variable {H:Heap} {b k:Nat} {ids:Nat → Nat} {cp:Nat → Option Nat} {fo:List (List (List AV))} {j:Nat} {x:List AV} {o:Option AObj}
end
def fqE (E:Env) (g:FuncId) (m:Nat) (results:List ResultVar) (P:AV × Heap → Prop):Post:=
 fun e F H=>match e with|.exit _=>False|_=>∃ vs r,aresults E F H results = some vs ∧ finish (E.thaw g) m (oneOf vs) H = some r ∧ P r
theorem fqE_r {E:Env} {g:FuncId} {m:Nat} {results:List ResultVar} {P:AV × Heap → Prop} {F:Frm} {H:Heap} {vs:List AV} {r:AV × Heap} (h1:aresults E F H results = some vs) (h2:finish (E.thaw g) m (oneOf vs) H = some r) (h3:P r):fqE E g m results P .ret F H:=⟨vs,r,h1,h2,h3⟩
theorem fqE_n {E:Env} {g:FuncId} {m:Nat} {results:List ResultVar} {P:AV × Heap → Prop} {F:Frm} {H:Heap} {vs:List AV} {r:AV × Heap} (h1:aresults E F H results = some vs) (h2:finish (E.thaw g) m (oneOf vs) H = some r) (h3:P r):fqE E g m results P .normal F H:=⟨vs,r,h1,h2,h3⟩
theorem sem_wpE {E:Env} {M:List Fact} {g:FuncId} {args:List AV} {H:Heap} {code:Code} {N:Nat} {results:List ResultVar} {P:AV × Heap → Prop}
 (hfn:E.fn g = some ⟨code,N,results⟩) (hno:∀ y ∈ M,y.g ≠ g) (hN:Nat.ble args.length N = true) {m:Nat} (hm:H.length = m) (h:Wp (cx E M m N g 0) code (entryF 0 args) H (fqE E g m results P)):∃ r,P r ∧ sem E M g args H = some r:=by
 subst hm
 obtain ⟨e,F',H',h1,h2⟩:=wp_ev _ h
 cases e with
 | normal=>obtain ⟨vs,⟨v,H2⟩,h3,h4,h5⟩:=h2;exact ⟨_,h5,sem_ev hfn hno hN h1 (fun _ h=>by cases h) h3 h4⟩
 | ret=>obtain ⟨vs,⟨v,H2⟩,h3,h4,h5⟩:=h2;exact ⟨_,h5,sem_ev hfn hno hN h1 (fun _ h=>by cases h) h3 h4⟩
 | exit id=>exact h2.elim
theorem svE {E:Env} {M:List Fact} {g:FuncId} {args:List AV} {H:Heap} {P:AV × Heap → Prop} (f:Func) (h:Wp (cx E M H.length f.ntmps g 0) (f.body.getD .skip) (entryF 0 args) H (fqE E g H.length f.results.toList P)) (hfn:E.fn g = some ⟨f.body.getD .skip,f.ntmps,f.results.toList⟩:=by kernel_rfl)
 (hno:(M.all fun y=>!Nat.beq y.g g) = true:=by rfl) (hN:Nat.ble args.length f.ntmps = true:=by rfl):∃ r,P r ∧ sem E M g args H = some r:=sem_wpE hfn (fun y hy e=>by
 have:=List.all_eq_true.1 hno y hy
 rw [e] at this
 simp at this) hN rfl h
end Go.Ax
/- AxCall3: calls over two blocks, which they may write. -/
namespace Go.Ax
theorem putBack_get2 {σ:List Nat} {n:Nat} {H1:Heap}:∀ (s:Nat) (H:Heap) (i:Nat),(putBack σ n H1 s H)[i]? = (H[i]?).map fun o=>match σ.idxOf? (s + i) with|some j=>(HeapF H1 j).map (renObj (backOf σ n))|none=>o
 | s,[],i=>by simp [putBack]
 | s,o :: H,0=>by simp [putBack];rfl
 | s,o :: H,i + 1=>by
  simp only [putBack,List.getElem?_cons_succ,putBack_get2 (s + 1) H i]
  rw [show s + 1 + i = s + (i + 1) by omega]
theorem reach_two {H:Heap} {a b:Nat} (hab:a ≠ b) (ha:refsO (HeapF H a) = []) (hb:refsO (HeapF H b) = []):reach H 1000000 [a,b] [] = [a,b]:=by
 have e:reach H (999996 + 4) [a,b] [] = [a,b]:=by
  unfold reach
  simp only [containsN,cond_false,ha,List.nil_append]
  unfold reach
  have h1:containsN [a] b = false:=by
   cases hc:containsN [a] b with
   | false=>rfl
   | true=>exact absurd (by simpa using containsN_iff.1 hc) (Ne.symm hab)
  simp only [h1,cond_false,hb,List.nil_append]
  unfold reach
  rfl
 exact e
theorem callV_two {E:Env} {draw:Bool} {call:CallF} {g:FuncId} {fs cs ar args:List AV} {H:Heap} {v v':AV} {a b:Nat} {o1 o2 p1 p2:AObj} (hx:E.ext g = false) (hf:(E.fn g).isSome = true) (he:fs ++ ar ++ cs = args)
 (hab:a ≠ b) (ha:HeapF H a = some o1) (hb:HeapF H b = some o2) (hr1:refsO (some o1) = []) (hr2:refsO (some o2) = []) (hf1:FlatO (some o1)) (hf2:FlatO (some o2)) (hargs:refsL args = [a,b])
 {args':List AV} (hra:args.map (ren (piOf [a,b])) = args') (hr:call g args' [some o1,some o2] = some (v,[some p1,some p2])) (hp1:FlatO (some p1)) (hp2:FlatO (some p2)) (hv:ren (backOf [a,b] H.length) v = v') :
 callV E draw call (.func (.func g) fs cs) ar H = some (v',(H.set a (some p1)).set b (some p2),[a,b]):=by
 have l1:=heapF_lt ha
 have l2:=heapF_lt hb
 have hn:nodupB [a,b] = true:=nodupB_of (by simp [hab])
 have hc:=callLoc_eq (call g) args H (σ:=[a,b]) (by rw [hargs];exact reach_two hab (by rw [ha];exact hr1) (by rw [hb];exact hr2)) hn (by simp [l1,l2]) hra (H0:=[some o1,some o2])
  (by simp only [smallH,List.map_cons,List.map_nil,ha,hb];rw [hf1,hf2]) hr
 have hpb:putBack [a,b] H.length [some p1,some p2] 0 H = (H.set a (some p1)).set b (some p2):=by
  apply List.ext_getElem?
  intro i
  rw [putBack_get2,List.getElem?_set,List.getElem?_set,List.length_set,Nat.zero_add]
  by_cases hia:a = i
  ·subst hia
   have e:([a,b]:List Nat).idxOf? a = some 0:=by simp [List.idxOf?_cons]
   rw [List.getElem?_eq_getElem l1]
   simp only [Option.map_some,e,if_neg (Ne.symm hab),if_true,l1]
   congr 1
   exact hp1 _
  ·by_cases hib:b = i
   ·subst hib
    have e:([a,b]:List Nat).idxOf? b = some 1:=by simp [List.idxOf?_cons,hab]
    rw [List.getElem?_eq_getElem l2]
    simp only [Option.map_some,e,if_true,l2]
    congr 1
    exact hp2 _
   ·have e:([a,b]:List Nat).idxOf? i = none:=by simp [List.idxOf?_cons,hia,hib]
    rw [if_neg hib,if_neg hia]
    cases H[i]? with
    | none=>rfl
    | some o=>simp only [Option.map_some,e]
 rw [hv,hpb] at hc
 simp only [List.drop_succ_cons,List.drop_zero,List.map_nil,List.append_nil,List.length_cons,List.length_nil] at hc
 exact callV_eq hx hf he hc (by simp)
end Go.Ax
