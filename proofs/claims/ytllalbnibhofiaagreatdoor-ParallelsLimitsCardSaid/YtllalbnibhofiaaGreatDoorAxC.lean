/- AxRun: the evaluator: operations in a row, statements, calls. Definitions only. -/
import Derived.Test.YtllalbnibhofiaaGreatDoorAxB
import Derived.Test.YtllalbnibhofiaaGreatDoorAxA
import Derived.Lib.Bytealg
import Derived.Orders
import Derived.Scope
namespace Go.Ax

def HeapF (H : Heap) : FHeap := fun b => (H[b]?).join
def effH (H : Heap) : Eff → Heap
  | .none => H
  | .new o => H ++ [some o]
  | .set b o => H.set b (some o)
  | .kill b o => H.set b none ++ [some o]

/-! ### what a value refers to -/
mutual
def refs : AV → List Nat
  | .ptr b _ _ => [b]
  | .slice b _ _ _ => [b]
  | .map b => [b]
  | .func _ fs cs => refsL fs ++ refsL cs
  | .iface _ x => refs x
  | .agg cs => refsL cs
  | .tuple cs => refsL cs
  | .junk | .bool _ | .int .. | .str _ | .nilptr | .nilslice | .nilmap | .nilfunc | .nilifc | .iptr _ | .islice .. | .imap .. => []
def refsL : List AV → List Nat
  | [] => []
  | v :: vs => refs v ++ refsL vs
end
def refsO : Option AObj → List Nat
  | some (.row _ rows) => rows.flatMap refsL
  | some (.map ks vs _ _) => refsL ks ++ refsL vs
  | _ => []
def containsN : List Nat → Nat → Bool
  | [], _ => false
  | a :: r, x => bif Nat.beq a x then true else containsN r x
theorem containsN_iff {l : List Nat} {x : Nat} : containsN l x = true ↔ x ∈ l := by
  induction l with
  | nil => simp [containsN]
  | cons a r ih =>
    simp only [containsN, nbeq, cond_eq_ite, List.mem_cons]
    by_cases h : a = x
    · simp [h]
    · simp only [beq_eq_false_iff_ne.2 h, Bool.false_eq_true, if_false, ih]
      exact ⟨.inr, fun h' => h'.resolve_left (fun e => h e.symm)⟩
/-- The blocks that are reached from a list of blocks, each once, in the order in which they are met. -/
def reach (H : Heap) : Nat → List Nat → List Nat → List Nat
  | 0, _, acc => acc.reverse
  | _ + 1, [], acc => acc.reverse
  | n + 1, b :: todo, acc => bif containsN acc b then reach H n todo acc else reach H n (refsO (HeapF H b) ++ todo) (b :: acc)
def reachFuel : Nat := 1000000

/-! ### renaming a heap -/
def piOf (σ : List Nat) : Nat → Option Nat := fun b => σ.idxOf? b
def smallH (H : Heap) (σ : List Nat) (π : Nat → Option Nat) : Heap := σ.map fun b => (HeapF H b).map (renObj π)
def backOf (σ : List Nat) (n : Nat) : Nat → Option Nat := fun j => bif Nat.blt j σ.length then σ[j]? else some (n + (j - σ.length))
def putBack (σ : List Nat) (n : Nat) (H1 : Heap) : Nat → Heap → Heap
  | _, [] => []
  | b, o :: r => (match σ.idxOf? b with
    | some j => (HeapF H1 j).map (renObj (backOf σ n))
    | none => o) :: putBack σ n H1 (b + 1) r
def nodupB : List Nat → Bool
  | [] => true
  | b :: r => !(containsN r b) && nodupB r

/-- A call: the callee sees the blocks that its arguments reach, under numbers from 0 on, and nothing else. -/
def callLoc (run : List AV → Heap → Option (AV × Heap)) (args : List AV) (H : Heap) : Option (AV × Heap × List Nat) :=
  let σ := reach H reachFuel (refsL args) []
  bif nodupB σ && σ.all (fun b => Nat.blt b H.length) then
    match run (args.map (ren (piOf σ))) (smallH H σ (piOf σ)) with
    | some (v, H1) => some (ren (backOf σ H.length) v, putBack σ H.length H1 0 H ++ (H1.drop σ.length).map (Option.map (renObj (backOf σ H.length))), σ)
    | none => none
  else none

/-- The one function of the library without a Go body that is handled: the first place of a byte. -/
def aext (args : List AV) : Option AV :=
  match args with
  | [.str s, .int .u8 c] => some (.int .i64 (Lib.indexByte s c.toNat.toUInt8))
  | _ => none

def callV (E : Env) (draw : Bool) (call : FuncId → List AV → Heap → Option (AV × Heap)) (f : AV) (args : List AV) (H : Heap) : Option (AV × Heap × List Nat) :=
  match f with
  | .func (.func g) fs cs => bif E.ext g then match aext (fs ++ args ++ cs) with
      | some v => some (v, H, [])
      | none => none
    else bif (E.fn g).isSome then
      match callLoc (call g) (fs ++ args ++ cs) H with
      | some (v, H', σ) => bif draw && !(Nat.beq H'.length H.length) then none else some (v, H', σ)
      | none => none
    else none
  | _ => none

/-! ### operations in a row -/
structure LogE where
  needs : List Nat
  keys : List Nat

def Eff.keys (n : Nat) : Eff → List Nat
  | .none => []
  | .new _ => [n]
  | .set b _ => [b]
  | .kill b _ => [b, n]

def Eff.fits (n : Nat) : Eff → Bool
  | .set b _ => Nat.blt b n
  | .kill b _ => Nat.blt b n
  | _ => true

def topRef : AV → List Nat
  | .ptr b _ _ => [b]
  | .slice b _ _ _ => [b]
  | .map b => [b]
  | _ => []
/-- The blocks that an operation may look into. -/
def aneeds (op : Op) (v : Operand → AV) : List Nat :=
  match op with
  | .load _ a => topRef (v a)
  | .store _ a _ => topRef (v a)
  | .convert _ _ x => topRef (v x)
  | .slice _ x _ _ _ => topRef (v x)
  | .indexAddr _ x _ => topRef (v x)
  | .lookup _ m _ _ => topRef (v m)
  | .mapUpdate _ m _ _ => topRef (v m)
  | .insert _ m _ _ => topRef (v m)
  | .mapEntry _ m _ => topRef (v m)
  | .entryStore _ m _ _ => topRef (v m)
  | .next it _ => topRef (v it)
  | .call { callee := .builtin _, args, .. } => args.toList.flatMap fun x => topRef (v x)
  | _ => []

def stepOp (E : Env) (draw : Bool) (call : FuncId → List AV → Heap → Option (AV × Heap)) (F : Frm) (H : Heap) (op : Op) : Option (AV × Heap × LogE) :=
  match op with
  | .call { callee := .value f, args, .. } => match callV E draw call (opv E F f) (args.toList.map (opv E F)) H with
    | some (v, H', σ) => some (v, H', ⟨σ, σ⟩)
    | none => none
  | op => match aop E H.length (HeapF H) op (opv E F) with
    | some (v, e) => bif e.fits H.length then some (v, effH H e, ⟨aneeds op (opv E F), e.keys H.length⟩) else none
    | none => none

def dstOk (N : Nat) : Option Tmp → Bool
  | none => true
  | some d => Nat.blt d N

def meetsB (a b : List Nat) : Bool := a.any fun x => containsN b x
def LogE.clash (x y : LogE) : Bool := meetsB x.keys y.needs || meetsB x.keys y.keys || meetsB x.needs y.keys

/-- Operation i comes before operation j in every order. -/
def isBefore (all : List Oper) (i : Nat) : Nat → Nat → Bool
  | 0, _ => false
  | n + 1, j => match all[j]? with
    | some o => o.after.toList.any fun e => Region.binds .any e && (e.on == i || isBefore all i n e.on)
    | none => false
def edgeOf (all : List Oper) (i j : Nat) : Bool :=
  match all[j]? with
  | some o => o.after.toList.any fun e => Region.binds .any e && e.on == i
  | none => false
def ordered (all : List Oper) (i j : Nat) : Bool := edgeOf all i j || isBefore all i all.length j

/-- The log runs from the last operation to the first. -/
def logOk (all : List Oper) : Nat → List LogE → Bool
  | _, [] => true
  | 0, _ :: _ => false
  | j + 1, y :: rest => logRow all j y j rest && logOk all j rest
  where logRow (all : List Oper) (j : Nat) (y : LogE) : Nat → List LogE → Bool
  | _, [] => true
  | 0, _ :: _ => false
  | i + 1, x :: rest => (!(x.clash y) || ordered all i j) && logRow all j y i rest

def guardSlot (all : List Oper) (j : Nat) : Option Nat := (all[j]?).bind (·.dst)

def runOps (E : Env) (draw : Bool) (N : Nat) (call : FuncId → List AV → Heap → Option (AV × Heap)) (all : List Oper) {R : Type} :
    List Oper → List LogE → Frm → Heap → (Frm → Heap → Option R) → Option R
  | [], log, F, H, k => bif !draw || logOk all log.length log then k F H else none
  | o :: rest, log, F, H, k =>
    bif dstOk N o.dst then
      match o.guard with
      | none => match stepOp E draw call F H o.op with
        | some (v, H', l) => runOps E draw N call all rest (l :: log) (setF F o.dst v) H' k
        | none => none
      | some (j, want) => match guardSlot all j with
        | none => none
        | some d => match getF F d with
          | .bool b => bif b then
              (bif want then match stepOp E draw call (setF F (some d) (.bool true)) H o.op with
                | some (v, H', l) => runOps E draw N call all rest (l :: log) (setF (setF F (some d) (.bool true)) o.dst v) H' k
                | none => none
              else runOps E draw N call all rest (⟨[], []⟩ :: log) (setF (setF F (some d) (.bool true)) o.dst (.tuple [])) H k)
            else
              (bif want then runOps E draw N call all rest (⟨[], []⟩ :: log) (setF (setF F (some d) (.bool false)) o.dst (.tuple [])) H k
              else match stepOp E draw call (setF F (some d) (.bool false)) H o.op with
                | some (v, H', l) => runOps E draw N call all rest (l :: log) (setF (setF F (some d) (.bool false)) o.dst v) H' k
                | none => none)
          | .tuple [] => runOps E draw N call all rest (⟨[], []⟩ :: log) (setF F o.dst (.tuple [])) H k
          | _ => none
    else none

/-! ### statements -/
inductive AExit where
  | normal
  | exit (id : Nat)
  | ret

/-- At a loop's head: the slots that are kept, and the blocks that they reach; blocks below m0 keep their numbers. -/
def keepF (keep : List Nat) (F : Frm) : Frm := keep.map fun s => (s, getF F s)
def gcIds (m0 : Nat) (F : Frm) (H : Heap) : List Nat :=
  (reach H reachFuel ((H.take m0).flatMap refsO ++ refsL (F.map (·.2))) []).filter fun b => Nat.ble m0 b
def gcPi (m0 : Nat) (σ : List Nat) : Nat → Option Nat := fun b => bif Nat.blt b m0 then some b else (σ.idxOf? b).map (m0 + ·)
def renF (π : Nat → Option Nat) (F : Frm) : Frm := F.map fun x => (x.1, ren π x.2)
def gcH (m0 : Nat) (σ : List Nat) (H : Heap) : Heap := (H.take m0).map (Option.map (renObj (gcPi m0 σ))) ++ smallH H σ (gcPi m0 σ)

def loopN (m0 : Nat) (keep : List Nat) {R : Type} (body : Frm → Heap → (AExit → Frm → Heap → Option R) → Option R) : Nat → Frm → Heap → (AExit → Frm → Heap → Option R) → Option R
  | 0, _, _, _ => none
  | n + 1, F, H, k =>
    let F1 := keepF keep F
    let σ := gcIds m0 F1 H
    bif nodupB σ && σ.all (fun b => Nat.ble m0 b) && Nat.ble m0 H.length then
      body (renF (gcPi m0 σ) F1) (gcH m0 σ H) fun e F' H' => match e with
        | .normal => loopN m0 keep body n F' H' k
        | e => k e F' H'
    else none


def aevC (E : Env) (m0 N : Nat) (keep : Nat → List Nat) (call : FuncId → List AV → Heap → Option (AV × Heap)) (lf : Nat) {R : Type} :
    Nat → Code → Frm → Heap → (AExit → Frm → Heap → Option R) → Option R
  | _, .skip, F, H, k => k .normal F H
  | _, .label _, F, H, k => k .normal F H
  | _, .region _ ops draw, F, H, k => runOps E draw N call ops.toList ops.toList [] F H fun F' H' => k .normal F' H'
  | cur, .seq a b, F, H, k => aevC E m0 N keep call lf cur a F H fun e F' H' => match e with
    | .normal => aevC E m0 N keep call lf cur b F' H' k
    | e => k e F' H'
  | cur, .cond c x y, F, H, k => match opv E F c with
    | .bool t => bif t then aevC E m0 N keep call lf cur x F H k else aevC E m0 N keep call lf cur y F H k
    | _ => none
  | _, .block id b, F, H, k => aevC E m0 N keep call lf id b F H fun e F' H' => match e with
    | .exit id' => bif id' == id then k .normal F' H' else k (.exit id') F' H'
    | e => k e F' H'
  | cur, .loop b, F, H, k => loopN m0 (keep cur) (fun F H k => aevC E m0 N keep call lf cur b F H k) lf F H k
  | cur, .scope b, F, H, k => aevC E m0 N keep call lf cur b F H k
  | _, .exit id, F, H, k => k (.exit id) F H
  | _, .ret, F, H, k => k .ret F H
  | _, _, _, _, _ => none

/-! ### functions -/
def aresults (E : Env) (F : Frm) (H : Heap) : List ResultVar → Option (List AV)
  | [] => some []
  | .tmp t :: r => match aresults E F H r with
    | some vs => some (getF F t :: vs)
    | none => none
  | .cell a t :: r => match aload E (HeapF H) t (getF F a), aresults E F H r with
    | some v, some vs => some (v :: vs)
    | _, _ => none
def oneOf : List AV → AV
  | [v] => v
  | vs => .tuple vs
def entryF : Nat → List AV → Frm
  | _, [] => []
  | i, v :: vs => (i, v) :: entryF (i + 1) vs
def finish (thaw : Bool) (m : Nat) (v : AV) (H : Heap) : Option (AV × Heap) :=
  bif thaw then some (v, H) else match frzV m true (frzD (HeapF H) m 12) v with
    | some v' => some (v', (H.take m).map (Option.map (renObj (piBelow m))))
    | none => none

def acall (E : Env) : Nat → FuncId → List AV → Heap → Option (AV × Heap)
  | 0, _, _, _ => none
  | n + 1, f, args, H => match E.fn f with
    | none => none
    | some i => bif Nat.ble args.length i.ntmps then
        aevC E H.length i.ntmps (E.keep f) (acall E n) (n + 1) 0 i.code (entryF 0 args) H fun e F' H' => match e with
          | .exit _ => none
          | _ => match aresults E F' H' i.results with
            | some vs => finish (E.thaw f) H.length (oneOf vs) H'
            | none => none
      else none
end Go.Ax

/- AxNow: what holds at every point of a function's run, against its entry. -/
namespace Go.Ax

/-- The entry of a function: what was immutable, kept, where the blocks lay, the world, the deferred calls. -/
structure Entry where
  I : Nat → Prop
  K : Nat → Prop
  ρ : PMap
  m : Nat
  w : World
  defers : List Deferred

def NRel (ρ : PMap) (n : Nat) : Prop := ∀ b, n ≤ b → ρ b = none

/-- A point of the run. -/
structure Now (E : Env) (e : Entry) (N : Nat) (F : Frm) (H : Heap) (I : Nat → Prop) (ρ : PMap) (a : Act) (w : World) : Prop where
  imm : ∀ c, e.I c → I c
  map : ∀ b, b < e.m → ρ b = e.ρ b
  ext : Ext e.I e.K e.w w
  rel : HRel E.G I e.K ρ (HeapF H) w
  nrel : NRel ρ H.length
  frm : FRel I w ρ N F a.tmps
  low : e.m ≤ H.length
  defers : a.defers = e.defers

section
variable {E : Env}
theorem HeapF_none (H : Heap) : HeapF H H.length = none := by simp [HeapF]

theorem eff_le (H : Heap) (e : Eff) : ∀ b o, HeapF (effH H e) b = some o → ((HeapF H).eff H.length e) b = some o := by
  intro b o hb
  cases e with
  | none => exact hb
  | new o1 =>
    simp only [effH, HeapF, FHeap.eff, FHeap.set] at hb ⊢
    by_cases h : b = H.length
    · subst h; simp at hb; simp [hb]
    · rw [if_neg h]
      rcases Nat.lt_or_ge b H.length with h1 | h1
      · rwa [List.getElem?_append_left h1] at hb
      · rw [List.getElem?_eq_none (by simp; omega)] at hb; simp at hb
  | set b1 o1 =>
    simp only [effH, HeapF, FHeap.eff, FHeap.set] at hb ⊢
    rw [List.getElem?_set] at hb
    by_cases h : b = b1
    · subst h
      rw [if_pos rfl] at hb ⊢
      split at hb
      · simpa using hb
      · simp at hb
    · rw [if_neg (fun e => h e.symm)] at hb; rw [if_neg h]; exact hb
  | kill b1 o1 =>
    simp only [effH, HeapF, FHeap.eff, FHeap.set] at hb ⊢
    by_cases h : b = H.length
    · subst h
      rw [List.getElem?_append_right (by simp)] at hb
      simp at hb; simp [hb]
    · rw [if_neg h]
      rcases Nat.lt_or_ge b H.length with h1 | h1
      · rw [List.getElem?_append_left (by simpa using h1), List.getElem?_set] at hb
        by_cases h2 : b = b1
        · subst h2
          rw [if_pos rfl] at hb
          split at hb <;> simp at hb
        · rw [if_neg (fun e => h2 e.symm)] at hb; rw [if_neg h2]; exact hb
      · rw [List.getElem?_eq_none (by simp; omega)] at hb; simp at hb

theorem effH_length (H : Heap) (e : Eff) : (effH H e).length = if e.fresh then H.length + 1 else H.length := by
  cases e <;> simp [effH, Eff.fresh]

theorem NRel.moves {ρ ρ' : PMap} {H : Heap} {e : Eff} (hn : NRel ρ H.length) (hm : Moves ρ ρ' H.length e) : NRel ρ' (effH H e).length := by
  intro b hb
  rw [effH_length] at hb
  cases hf : e.fresh with
  | false =>
    rw [hf] at hb
    rw [hm.2 hf]; exact hn b (by simpa using hb)
  | true =>
    rw [hf] at hb
    have hb : H.length + 1 ≤ b := by simpa using hb
    rw [hm.1 b (by omega)]; exact hn b (by omega)

/-- One operation that calls nothing. -/
theorem Now.op (ok : EnvOk E) {e : Entry} {N : Nat} {F : Frm} {H : Heap} {I : Nat → Prop} {ρ : PMap} {a : Act} {w : World} (h : Now E e N F H I ρ a w) {o : Oper} {v : AV} {eff : Eff}
    (ha : aop E H.length (HeapF H) o.op (opv E F) = some (v, eff)) (hd : dstOk N o.dst = true) :
    ∃ x w' c ρ', (execOp a.eval o).run E.P w = .ok x w' ∧ (x = .value c ∨ (x = .skip ∧ c = undef)) ∧ Now E e N (setF F o.dst v) (effH H eff) I ρ' (a.put o.dst c) w' := by
  obtain ⟨x, w', c, ρ', hrun, hx, step, hv, hm⟩ := aop_ok ok h.rel (HeapF_none H) (h.nrel _ (Nat.le_refl _)) ha (opv_ok h.rel h.frm)
  refine ⟨x, w', c, ρ', hrun, hx, ?_⟩
  have hd' : ∀ s, o.dst = some s → s < N := by intro s hs; rw [hs] at hd; simpa [dstOk, Nat.blt_eq] using hd
  refine ⟨h.imm, fun b hb => ?_, h.ext.trans h.imm step.ext, step.rel.fewer (eff_le H eff), h.nrel.moves hm, ?_, ?_, ?_⟩
  · rw [hm.1 b (by have := h.low; omega)]; exact h.map b hb
  · exact (FRel.mono h.frm (fun v c hv => step.vrel hv)).set hd' hv
  · rw [effH_length]; have := h.low; split <;> omega
  · rw [← h.defers]; cases o.dst <;> rfl

/-- A slot is set to a value that it may hold. -/
theorem Now.refine {e : Entry} {N : Nat} {F : Frm} {H : Heap} {I : Nat → Prop} {ρ : PMap} {a : Act} {w : World} (h : Now E e N F H I ρ a w) {d : Nat} {v : AV} (hv : VRel I w ρ v (a.tmps.getD d undef)) :
    Now E e N (setF F (some d) v) H I ρ a w :=
  { h with frm := ⟨h.frm.1, fun s => by
      rw [getF_setF]
      split
      · rename_i hs; subst hs; exact hv
      · exact h.frm.2 s⟩ }
/-- A skipped operation. -/
theorem Now.skip {e : Entry} {N : Nat} {F : Frm} {H : Heap} {I : Nat → Prop} {ρ : PMap} {a : Act} {w : World} (h : Now E e N F H I ρ a w) {o : Oper} (hd : dstOk N o.dst = true) :
    Now E e N (setF F o.dst (.tuple [])) H I ρ (a.put o.dst undef) w :=
  { h with
    frm := h.frm.set (by intro s hs; rw [hs] at hd; simpa [dstOk, Nat.blt_eq] using hd) (by simp only [VRel, undef]; exact ⟨#[], rfl, by simp [VRels]⟩)
    defers := by rw [← h.defers]; cases o.dst <;> rfl }
end
end Go.Ax

/- AxCall: a call on the blocks that its arguments reach, and back. -/
namespace Go.Ax

/-- What a call leaves, against the point where it began. -/
structure Ret (E : Env) (I K : Nat → Prop) (ρ : PMap) (m : Nat) (w : World) (I' : Nat → Prop) (ρ' : PMap) (H' : Heap) (w' : World) : Prop where
  imm : ∀ c, I c → I' c
  map : ∀ b, b < m → ρ' b = ρ b
  ext : Ext I K w w'
  rel : HRel E.G I' K ρ' (HeapF H') w'
  nrel : NRel ρ' H'.length
  low : m ≤ H'.length

def FunOk (E : Env) (f : FuncId) (run : List AV → Heap → Option (AV × Heap)) : Prop :=
  ∀ args H v H', run args H = some (v, H') → ∀ (I K : Nat → Prop) (ρ : PMap) (w : World) (cargs : List Value), HRel E.G I K ρ (HeapF H) w → NRel ρ H.length → VRels I w ρ args cargs →
    Calls E.P f cargs.toArray w fun en w' => ∃ c I' ρ', en = .returned c ∧ Ret E I K ρ H.length w I' ρ' H' w' ∧ VRel I' w' ρ' v c

/-- Blocks that a call cannot reach: they are to be kept. -/
def KeptBut (K : Nat → Prop) (ρ : PMap) (hp : FHeap) (σ : List Nat) : Nat → Prop := fun c => K c ∨ ∃ b o m, hp b = some o ∧ ρ b = some m ∧ m.blk = c ∧ b ∉ σ

theorem idxOf_get {σ : List Nat} {b j : Nat} (h : σ.idxOf? b = some j) : σ[j]? = some b := by
  rw [List.idxOf?_eq_some_iff] at h
  obtain ⟨hj, hb, _⟩ := h
  rw [List.getElem?_eq_getElem hj, hb]
theorem idxOf_none {σ : List Nat} {b : Nat} (h : σ.idxOf? b = none) : b ∉ σ := by
  simpa [List.idxOf?_eq_none_iff] using h
theorem nodup_of {l : List Nat} (h : nodupB l = true) : l.Nodup := by
  induction l with
  | nil => exact List.nodup_nil
  | cons b r ih =>
    simp only [nodupB, Bool.and_eq_true, Bool.not_eq_true', ← Bool.not_eq_true, containsN_iff] at h
    exact List.nodup_cons.2 ⟨h.1, ih h.2⟩
theorem idxOf_of_get {σ : List Nat} {b j : Nat} (hn : σ.Nodup) (h : σ[j]? = some b) : σ.idxOf? b = some j := by
  rw [List.idxOf?_eq_some_iff]
  obtain ⟨hj, hb⟩ := List.getElem?_eq_some_iff.1 h
  refine ⟨hj, hb, fun i hi he => ?_⟩
  have := (List.getElem_inj (h₀ := by omega) (h₁ := hj) hn).1 (he.trans hb.symm)
  omega

section
variable {E : Env} {I K : Nat → Prop} {ρ : PMap} {hp : FHeap} {w : World} {σ : List Nat}

/-- The call's own view of the heap. -/
def smallF (hp : FHeap) (σ : List Nat) : Heap := σ.map fun b => (hp b).map (renObj (piOf σ))

theorem smallF_get (j : Nat) : HeapF (smallF hp σ) j = (σ[j]?).bind fun b => (hp b).map (renObj (piOf σ)) := by
  simp only [HeapF, smallF, List.getElem?_map]
  cases σ[j]? <;> simp

theorem local_rel (r : HRel E.G I K ρ hp w) (hn : σ.Nodup) : HRel E.G I (KeptBut K ρ hp σ) (fun j => (σ[j]?).bind ρ) (HeapF (smallF hp σ)) w := by
  have r1 : HRel E.G I K (fun j => (σ[j]?).bind ρ) (HeapF (smallF hp σ)) w := by
    refine r.rename (π := piOf σ) ?_ ?_ ?_
    · intro b j m hj hb
      have := idxOf_get hj
      simp only [this, Option.bind_some, hb]
    · intro j o' ho
      rw [smallF_get] at ho
      cases hb : σ[j]? with
      | none => rw [hb] at ho; simp at ho
      | some b =>
        rw [hb] at ho
        simp only [Option.bind_some] at ho
        cases hpb : hp b with
        | none => rw [hpb] at ho; simp at ho
        | some o =>
          rw [hpb] at ho
          simp only [Option.map_some, Option.some.injEq] at ho
          exact ⟨b, o, hpb, idxOf_of_get hn hb, ho.symm⟩
    · intro j m hj
      cases hb : σ[j]? with
      | none => rw [hb] at hj; simp at hj
      | some b => rw [hb] at hj; exact r.dom b m hj
  refine ⟨?_, r1.inj, r1.dom, r1.imm, ?_, ?_, r1.glob⟩
  · intro j o' ho
    obtain ⟨m, h1, h2, h3, h4⟩ := r1.live j o' ho
    refine ⟨m, h1, h2, ?_, h4⟩
    rintro (hk | ⟨b, o, m', hb, hm', he, hns⟩)
    · exact h3 hk
    · rw [smallF_get] at ho
      cases hσ : σ[j]? with
      | none => rw [hσ] at ho; simp at ho
      | some b' =>
        rw [hσ] at ho h1
        simp only [Option.bind_some] at ho h1
        have hl : (hp b').isSome := by cases h : hp b' with | none => rw [h] at ho; simp at ho | some _ => rfl
        have := r.inj b b' m' m (by simp [hb]) hl hm' h1 he
        subst this
        exact hns (List.mem_of_getElem? hσ)
  · rintro c (hk | ⟨b, o, m', hb, hm', rfl, _⟩)
    · exact r.kept c hk
    · exact r.dom b m' hm'
  · rintro c hc (hk | ⟨b, o, m', hb, hm', rfl, _⟩)
    · exact r.apart c hc hk
    · obtain ⟨m'', h1, h2, _⟩ := r.live b o hb
      obtain rfl : m' = m'' := Option.some.inj (hm'.symm.trans h1)
      exact h2 hc

/-- The call itself. -/
theorem callCore {g : FuncId} {run : List AV → Heap → Option (AV × Heap)} (hrun : FunOk E g run) {args : List AV} {cargs : List Value} {v1 : AV} {H1 : Heap}
    (hcall : run (args.map (ren (piOf σ))) (smallF hp σ) = some (v1, H1)) (r : HRel E.G I K ρ hp w) (hn : σ.Nodup) (ha : VRels I w ρ args cargs) :
    Calls E.P g cargs.toArray w fun en w' => ∃ c I1 ρ1, en = .returned c ∧ Ret E I (KeptBut K ρ hp σ) (fun j => (σ[j]?).bind ρ) σ.length w I1 ρ1 H1 w' ∧ VRel I1 w' ρ1 v1 c := by
  have h := hrun _ _ _ _ hcall I (KeptBut K ρ hp σ) (fun j => (σ[j]?).bind ρ) w cargs (local_rel r hn)
    (by intro j hj; simp only [smallF, List.length_map] at hj; simp [List.getElem?_eq_none hj])
    (by
      rw [← renL_eq]
      exact VRels.ren (fun b j m hj hb => by have := idxOf_get hj; simp only [this, Option.bind_some, hb]) args ha)
  simpa [smallF] using h

/-- Back: the caller's blocks with what the call has made of those that it reached; new ones behind number n. -/
theorem back_rel {n : Nat} {I1 : Nat → Prop} {ρ1 : PMap} {H1 : Heap} {w' : World} (r : HRel E.G I K ρ hp w) (_ : σ.Nodup)
    (hret : Ret E I (KeptBut K ρ hp σ) (fun j => (σ[j]?).bind ρ) σ.length w I1 ρ1 H1 w') {ρ2 : PMap} {h2 : FHeap}
    (hold : ∀ b m, ρ b = some m → ρ2 b = some m) (hback : ∀ j b m, backOf σ n j = some b → ρ1 j = some m → ρ2 b = some m)
    (hdom : ∀ b m, ρ2 b = some m → ρ b = some m ∨ ∃ j, ρ1 j = some m)
    (hh : ∀ b o, h2 b = some o → (b ∉ σ ∧ hp b = some o) ∨ ∃ j o1, backOf σ n j = some b ∧ HeapF H1 j = some o1 ∧ o = renObj (backOf σ n) o1) :
    HRel E.G I1 K ρ2 h2 w' := by
  have hsz := hret.ext.size
  have hIw : ∀ c, I c → w'.heap[c]? = w.heap[c]? := fun c hc => hret.ext.keep c (.inl hc)
  have r1 := hret.rel
  have live2 : ∀ b o, h2 b = some o → ∃ m, ρ2 b = some m ∧ ¬ I1 m.blk ∧ ¬ K m.blk ∧ ORel I1 w' ρ2 m o ∧ ((b ∉ σ ∧ hp b = some o ∧ ρ b = some m) ∨ ∃ j, backOf σ n j = some b ∧ (HeapF H1 j).isSome ∧ ρ1 j = some m) := by
    intro b o hb
    rcases hh b o hb with ⟨hns, hpb⟩ | ⟨j, o1, hj, ho1, rfl⟩
    · obtain ⟨m, h1, h3, h4, h5⟩ := r.live b o hpb
      have hkb : KeptBut K ρ hp σ m.blk := .inr ⟨b, o, m, hpb, h1, rfl, hns⟩
      refine ⟨m, hold b m h1, fun hc => r1.apart _ hc hkb, h4, ?_, .inl ⟨hns, hpb, h1⟩⟩
      exact ORel.mono o hret.imm hIw hold (hret.ext.keep _ (.inr hkb)) h5
    · obtain ⟨m, h1, h3, h4, h5⟩ := r1.live j o1 ho1
      refine ⟨m, hback j b m hj h1, h3, fun hk => h4 (.inl hk), ORel.ren (fun j b m hj h => hback j b m hj h) o1 h5, .inr ⟨j, hj, by simp [ho1], h1⟩⟩
  refine ⟨?_, ?_, ?_, r1.imm, ?_, ?_, r1.glob⟩
  · intro b o hb
    obtain ⟨m, h1, h3, h4, h5, _⟩ := live2 b o hb
    exact ⟨m, h1, h3, h4, h5⟩
  · intro b b' m m' hb hb' hm hm' he
    obtain ⟨o, ho⟩ := Option.isSome_iff_exists.1 hb
    obtain ⟨o', ho'⟩ := Option.isSome_iff_exists.1 hb'
    obtain ⟨q, hq, _, _, _, hc⟩ := live2 b o ho
    obtain ⟨q', hq', _, _, _, hc'⟩ := live2 b' o' ho'
    rw [hm] at hq; cases hq
    rw [hm'] at hq'; cases hq'
    rcases hc with ⟨hns, hpb, h1⟩ | ⟨j, hj, hl, h1⟩ <;> rcases hc' with ⟨hns', hpb', h1'⟩ | ⟨j', hj', hl', h1'⟩
    · exact r.inj b b' m m' (by simp [hpb]) (by simp [hpb']) h1 h1' he
    · exfalso
      obtain ⟨o1, ho1⟩ := Option.isSome_iff_exists.1 hl'
      obtain ⟨q, hq, _, hk, _⟩ := r1.live j' o1 ho1
      rw [h1'] at hq; cases hq
      exact hk (.inr ⟨b, o, m, hpb, h1, he, hns⟩)
    · exfalso
      obtain ⟨o1, ho1⟩ := Option.isSome_iff_exists.1 hl
      obtain ⟨q, hq, _, hk, _⟩ := r1.live j o1 ho1
      rw [h1] at hq; cases hq
      exact hk (.inr ⟨b', o', m', hpb', h1', he.symm, hns'⟩)
    · have := r1.inj j j' m m' hl hl' h1 h1' he
      subst this
      rw [hj] at hj'
      exact Option.some.inj hj'
  · intro b m hb
    rcases hdom b m hb with h | ⟨j, h⟩
    · have := r.dom b m h; omega
    · exact r1.dom j m h
  · intro c hc; have := r.kept c hc; omega
  · intro c hc hk; exact r1.apart c hc (.inl hk)
end
end Go.Ax

/- AxCall2: a call in sequence; the concrete step of a call. -/
namespace Go.Ax
section
variable {E : Env} {I K : Nat → Prop} {ρ : PMap} {w : World}

theorem putBack_get (σ : List Nat) (n : Nat) (H1 : Heap) : ∀ (b0 : Nat) (H : Heap) (i : Nat),
    (putBack σ n H1 b0 H)[i]? = (H[i]?).map fun o => match σ.idxOf? (b0 + i) with
      | some j => (HeapF H1 j).map (renObj (backOf σ n))
      | none => o
  | b0, [], i => by simp [putBack]
  | b0, o :: r, 0 => by simp [putBack] <;> rfl
  | b0, o :: r, i + 1 => by
    simp only [putBack, List.getElem?_cons_succ]
    rw [putBack_get σ n H1 (b0 + 1) r i, show b0 + 1 + i = b0 + (i + 1) by omega]
theorem putBack_length (σ : List Nat) (n : Nat) (H1 : Heap) : ∀ (b0 : Nat) (H : Heap), (putBack σ n H1 b0 H).length = H.length
  | b0, [] => by simp [putBack]
  | b0, o :: r => by simp [putBack, putBack_length σ n H1 (b0 + 1) r]

theorem callLoc_ok {g : FuncId} {run : List AV → Heap → Option (AV × Heap)} (hrun : FunOk E g run) {args : List AV} {cargs : List Value} {H H' : Heap} {v : AV} {σ : List Nat}
    (hcall : callLoc run args H = some (v, H', σ)) (r : HRel E.G I K ρ (HeapF H) w) (hn : NRel ρ H.length) (ha : VRels I w ρ args cargs) :
    Calls E.P g cargs.toArray w fun en w' => ∃ c I' ρ', en = .returned c ∧ Ret E I K ρ H.length w I' ρ' H' w' ∧ VRel I' w' ρ' v c := by
  unfold callLoc at hcall
  simp only at hcall
  generalize hσ : reach H reachFuel (refsL args) [] = σ' at hcall
  rw [cond_eq_ite] at hcall
  split at hcall
  case isFalse => cases hcall
  rename_i hc
  simp only [Bool.and_eq_true, List.all_eq_true, Nat.blt_eq] at hc
  obtain ⟨hnd, hlt⟩ := hc
  have hnd := nodup_of hnd
  split at hcall
  case h_2 => cases hcall
  rename_i v1 H1 hr
  simp only [Option.some.injEq, Prod.mk.injEq] at hcall
  obtain ⟨rfl, rfl, rfl⟩ := hcall
  have hr' : run (args.map (ren (piOf σ'))) (smallF (HeapF H) σ') = some (v1, H1) := hr
  refine (callCore hrun hr' r hnd ha).mono ?_
  rintro en w' ⟨c, I1, ρ1, rfl, hret, hv⟩
  have hback : ∀ j b m, backOf σ' H.length j = some b → ρ1 j = some m → (if b < H.length then ρ b else ρ1 (σ'.length + (b - H.length))) = some m := by
    intro j b m hj hm
    simp only [backOf] at hj
    rw [cond_eq_ite] at hj
    split at hj
    · rename_i hjl
      have hjl : j < σ'.length := by simpa [Nat.blt_eq] using hjl
      have hb := hlt b (List.mem_of_getElem? hj)
      rw [if_pos hb]
      have := hret.map j hjl
      rw [hm, hj] at this
      exact this.symm
    · rename_i hjl
      have hjl : σ'.length ≤ j := by simpa [Nat.blt_eq] using hjl
      cases hj
      rw [if_neg (by omega), show σ'.length + (H.length + (j - σ'.length) - H.length) = j by omega]
      exact hm
  have hold : ∀ b m, ρ b = some m → (if b < H.length then ρ b else ρ1 (σ'.length + (b - H.length))) = some m := by
    intro b m hb
    have : b < H.length := by
      rcases Nat.lt_or_ge b H.length with h | h
      · exact h
      · rw [hn b h] at hb; cases hb
    rw [if_pos this]; exact hb
  refine ⟨c, I1, fun b => if b < H.length then ρ b else ρ1 (σ'.length + (b - H.length)), rfl, ⟨hret.imm, fun b hb => by rw [if_pos hb], hret.ext.keepLess (fun c hc => .inl hc), ?_, ?_, ?_⟩, ?_⟩
  · refine back_rel r hnd hret hold hback ?_ ?_
    · intro b m hb
      split at hb
      · exact .inl hb
      · exact .inr ⟨_, hb⟩
    · intro b o hb
      simp only [HeapF] at hb
      rcases Nat.lt_or_ge b H.length with hbl | hbl
      · rw [List.getElem?_append_left (by rw [putBack_length]; exact hbl), putBack_get] at hb
        simp only [Nat.zero_add] at hb
        rw [List.getElem?_eq_getElem hbl] at hb
        simp only [Option.map_some, Option.join_some] at hb
        split at hb
        · rename_i j hj
          right
          have hσj := idxOf_get hj
          have hjl := (List.getElem?_eq_some_iff.1 hσj).1
          obtain ⟨o1, ho1, rfl⟩ := map_some_inv hb
          refine ⟨j, o1, ?_, ho1, rfl⟩
          simp only [backOf]
          rw [cond_eq_ite, if_pos (by simpa [Nat.blt_eq] using hjl)]
          exact hσj
        · rename_i hj
          left
          exact ⟨idxOf_none hj, by simp only [HeapF]; rw [List.getElem?_eq_getElem hbl]; simpa using hb⟩
      · right
        rw [List.getElem?_append_right (by rw [putBack_length]; exact hbl), putBack_length, List.getElem?_map, List.getElem?_drop] at hb
        refine ⟨σ'.length + (b - H.length), ?_⟩
        cases hx : H1[σ'.length + (b - H.length)]? with
        | none => rw [hx] at hb; simp at hb
        | some ob =>
          rw [hx] at hb
          simp only [Option.map_some, Option.join_some] at hb
          obtain ⟨o1, rfl, rfl⟩ := map_some_inv hb
          refine ⟨o1, ?_, by simp [HeapF, hx], rfl⟩
          simp only [backOf]
          rw [cond_eq_ite, if_neg (by simp [Nat.blt_eq])]
          congr 1; omega
  · intro b hb
    simp only [List.length_append, putBack_length, List.length_map, List.length_drop] at hb
    have hlow := hret.low
    dsimp only
    rw [if_neg (by omega)]
    exact hret.nrel _ (by omega)
  · simp [putBack_length]
  · exact VRel.ren (fun j b m hj hm => hback j b m hj hm) v1 hv

/-- The model's call of a function value. -/
theorem exec_call {a : Act} {o : Oper} {f : Operand} {args : Array Operand} {ats : Array TypeId} (ho : o.op = .call ⟨.value f, args, ats⟩) {g : FuncId} {fs cs : Array Value} (hf : a.eval f = .func (.func g) fs cs) :
    (execOp a.eval o).run E.P w = (callFunc g (fs ++ args.map a.eval ++ cs)).run E.P w := by
  obtain ⟨dst, op, type, pos, after, guard⟩ := o
  simp only at ho
  subst ho
  simp [execOp, resolve, hf, Deferred.ofValue, invoke]

theorem callFunc_enter (ok : EnvOk E) {g : FuncId} (hg : (E.fn g).isSome = true) (args : Array Value) : (callFunc g args).run E.P w = .ok (.enter g args) w := by
  obtain ⟨i, hi⟩ := Option.isSome_iff_exists.1 hg
  obtain ⟨fn, h1, h2, _, _, h5⟩ := ok.fn g i hi
  have h6 : ¬ fn.name = "runtime.NumGoroutine" := by simpa using h5
  simp [callFunc, h1, h2, h6]

theorem callFunc_ext (ok : EnvOk E) {g : FuncId} (hg : E.ext g = true) {args : List AV} {cargs : List Value} {v : AV} (hv : aext args = some v) (ha : VRels I w ρ args cargs) :
    ∃ c, (callFunc g cargs.toArray).run E.P w = .ok (.value c) w ∧ VRel I w ρ v c := by
  obtain ⟨fn, h1, h2, h3, h4, h5⟩ := ok.ext g hg
  unfold aext at hv
  split at hv
  case h_2 => cases hv
  rename_i s cc
  cases hv
  simp only [VRels] at ha
  obtain ⟨c1, _, rfl, hs, c2, _, rfl, hb, rfl⟩ := ha
  simp only [VRel] at hs hb
  obtain ⟨t, rfl, ht⟩ := hs
  subst hb
  refine ⟨.int .i64 (Lib.indexByte s cc.toNat.toUInt8), ?_, by simp [VRel]⟩
  have := Lib.run_indexByteString (P := E.P) t cc w
  rw [ht] at this
  have h6 : ¬ fn.name = "runtime.NumGoroutine" := by simpa using h3
  simp [callFunc, h1, h2, h6, h4, h5, this]
end
end Go.Ax

/- AxSeq: operations in a row that draw no order. -/
namespace Go.Ax
section
variable {E : Env}

/-- A call, from one point of a run to the next. -/
theorem Now.call {e : Entry} {N : Nat} {F : Frm} {H H' : Heap} {I I' : Nat → Prop} {ρ ρ' : PMap} {a : Act} {w w' : World} (h : Now E e N F H I ρ a w) (r : Ret E I e.K ρ H.length w I' ρ' H' w')
    {d : Option Tmp} {v : AV} {c : Value} (hd : dstOk N d = true) (hv : VRel I' w' ρ' v c) : Now E e N (setF F d v) H' I' ρ' (a.put d c) w' := by
  have hρ : ∀ b m, ρ b = some m → ρ' b = some m := by
    intro b m hb
    have : b < H.length := by
      rcases Nat.lt_or_ge b H.length with h' | h'
      · exact h'
      · rw [h.nrel b h'] at hb; cases hb
    rw [r.map b this]; exact hb
  refine ⟨fun c hc => r.imm c (h.imm c hc), fun b hb => ?_, h.ext.trans h.imm r.ext, r.rel, r.nrel, ?_, ?_, ?_⟩
  · rw [r.map b (by have := h.low; omega)]; exact h.map b hb
  · exact (FRel.mono h.frm (fun v c hv => VRel.mono r.imm (fun c hc => r.ext.keep c (.inl hc)) v hρ hv)).set (by intro s hs; rw [hs] at hd; simpa [dstOk, Nat.blt_eq] using hd) hv
  · have := h.low; have := r.low; omega
  · rw [← h.defers]; cases d <;> rfl

def CallsOk (E : Env) (call : FuncId → List AV → Heap → Option (AV × Heap)) : Prop := ∀ g, FunOk E g (call g)

/-- One operation, whichever. -/
theorem stepOp_ok (ok : EnvOk E) {call : FuncId → List AV → Heap → Option (AV × Heap)} (hcall : CallsOk E call) {draw : Bool} {e : Entry} {N : Nat} {F : Frm} {H H' : Heap} {I : Nat → Prop} {ρ : PMap} {a : Act} {w : World}
    (h : Now E e N F H I ρ a w) {o : Oper} {v : AV} {l : LogE} (hs : stepOp E draw call F H o.op = some (v, H', l)) (hd : dstOk N o.dst = true) {K : Act → World → Prop} {Q : Exit → Act → World → Prop}
    (hK : ∀ I' ρ' a' w', Now E e N (setF F o.dst v) H' I' ρ' a' w' → K a' w') : o.wp E.P a w K Q := by
  unfold Oper.wp
  unfold stepOp at hs
  split at hs
  · rename_i f args ats hop
    split at hs
    case h_2 => cases hs
    rename_i v' H1 σ hcv
    cases hs
    unfold callV at hcv
    split at hcv
    case h_2 => cases hcv
    rename_i g fs cs hfv
    have hf := opv_ok h.rel h.frm f
    rw [hfv] at hf
    simp only [VRel] at hf
    obtain ⟨fs', cs', hfe, hfs, hcs⟩ := hf
    have hargs : VRels I w ρ (fs ++ args.toList.map (opv E F) ++ cs) (fs' ++ args.map a.eval ++ cs').toList := by
      simp only [Array.toList_append, Array.toList_map]
      exact VRels.append (VRels.append hfs (vrels_map (opv_ok h.rel h.frm) args.toList)) hcs
    rw [exec_call hop hfe]
    rw [cond_eq_ite] at hcv
    split at hcv
    · rename_i hext
      split at hcv
      case h_2 => cases hcv
      rename_i v'' hv''
      cases hcv
      obtain ⟨c, hrun, hvc⟩ := callFunc_ext (E := E) (w := w) ok hext hv'' hargs
      have harr : (fs' ++ args.map a.eval ++ cs').toList.toArray = fs' ++ args.map a.eval ++ cs' := by apply Array.ext'; simp
      rw [harr] at hrun
      rw [hrun, Oper.upon_value]
      exact hK I ρ _ _ (h.call ⟨fun _ h => h, fun _ _ => rfl, Ext.refl _ _ _, h.rel, h.nrel, Nat.le_refl _⟩ hd hvc)
    · rw [cond_eq_ite] at hcv
      split at hcv
      case isFalse => cases hcv
      rename_i hg
      split at hcv
      case h_2 => cases hcv
      rename_i v'' H2 σ2 hloc
      rw [cond_eq_ite] at hcv
      split at hcv
      case isTrue => cases hcv
      cases hcv
      rw [callFunc_enter ok hg, Oper.upon_enter]
      have hc := callLoc_ok (hcall g) hloc h.rel h.nrel hargs
      have harr : (fs' ++ args.map a.eval ++ cs').toList.toArray = fs' ++ args.map a.eval ++ cs' := by apply Array.ext'; simp
      rw [harr] at hc
      refine hc.mono ?_
      rintro en w' ⟨c, I', ρ', rfl, hret, hvc⟩
      exact hK I' ρ' _ _ (h.call hret hd hvc)
  · split at hs
    case h_2 => cases hs
    rename_i v' eff ha
    rw [cond_eq_ite] at hs
    split at hs
    case isFalse => cases hs
    cases hs
    obtain ⟨x, w', c, ρ', hrun, hx, hnow⟩ := h.op ok ha hd
    rw [hrun]
    rcases hx with rfl | ⟨rfl, rfl⟩
    · rw [Oper.upon_value]; exact hK I ρ' _ _ hnow
    · rw [Oper.upon_skip]; exact hK I ρ' _ _ hnow

theorem wpOps_here {P : Program} {ops : Array Oper} {Q : Exit → Act → World → Prop} {i : Nat} {rest : List Nat} {a : Act} {w : World} {o : Oper} (ho : ops[i]? = some o)
    (hw : Region.wanted o (yielded ops a.tmps) = true) (h : o.wp P a w (wpOps P ops Q rest) Q) : wpOps P ops Q (i :: rest) a w := by
  simp only [wpOps, ho, hw, if_true]; exact .inl h
theorem wpOps_skip {P : Program} {ops : Array Oper} {Q : Exit → Act → World → Prop} {i : Nat} {rest : List Nat} {a : Act} {w : World} {o : Oper} (ho : ops[i]? = some o)
    (hw : Region.wanted o (yielded ops a.tmps) = false) (h : wpOps P ops Q rest (a.put o.dst undef) w) : wpOps P ops Q (i :: rest) a w := by
  simp only [wpOps, ho, hw]; simpa using h

/-- A guard's value, as the model reads it. -/
theorem yielded_of {e : Entry} {N : Nat} {F : Frm} {H : Heap} {I : Nat → Prop} {ρ : PMap} {a : Act} {w : World} (h : Now E e N F H I ρ a w) {ops : Array Oper} {j d : Nat} (hg : guardSlot ops.toList j = some d) :
    (∀ b, getF F d = .bool b → yielded ops a.tmps j = some b) ∧ (getF F d = .tuple [] → yielded ops a.tmps j = none) := by
  have hd : (ops[j]?).bind (·.dst) = some d := by simpa [guardSlot] using hg
  have hv := h.frm.2 d
  have hget : ∀ c, a.tmps.getD d undef = c → c ≠ undef → a.tmps[d]? = some c := by
    intro c hc hne
    rw [Array.getD_eq_getD_getElem?] at hc
    cases hx : a.tmps[d]? with
    | none => rw [hx] at hc; exact absurd hc.symm hne
    | some x => rw [hx] at hc; simpa using hc
  refine ⟨fun b hb => ?_, fun hb => ?_⟩
  · rw [hb] at hv
    simp only [VRel] at hv
    have := hget _ hv (by simp [undef])
    simp [yielded, hd, this]
  · rw [hb] at hv
    simp only [VRel] at hv
    obtain ⟨cs, hc, hcs⟩ := hv
    unfold yielded
    rw [hd]
    simp only [Option.bind_some]
    rw [Array.getD_eq_getD_getElem?] at hc
    cases hx : a.tmps[d]? with
    | none => rfl
    | some x =>
      rw [hx] at hc
      simp only [Option.getD_some] at hc
      rw [hc]

theorem runOps_seq (ok : EnvOk E) {call : FuncId → List AV → Heap → Option (AV × Heap)} (hcall : CallsOk E call) {e : Entry} {N : Nat} {ops : Array Oper} {R : Type} {k : Frm → Heap → Option R} {r : R}
    {Q : Exit → Act → World → Prop} (hQ : ∀ F H I ρ a w, Now E e N F H I ρ a w → k F H = some r → Q .normal a w) :
    ∀ (rest : List Oper) (s : Nat) (log : List LogE) (F : Frm) (H : Heap) (I : Nat → Prop) (ρ : PMap) (a : Act) (w : World), rest = ops.toList.drop s → Now E e N F H I ρ a w →
      runOps E false N call ops.toList rest log F H k = some r → wpOps E.P ops Q (List.range' s rest.length) a w
  | [], s, log, F, H, I, ρ, a, w, _, hnow, hrun => by
    simp only [runOps, Bool.not_false, Bool.true_or, cond_true] at hrun
    simp only [List.length_nil, List.range'_zero, wpOps]
    exact hQ F H I ρ a w hnow hrun
  | o :: rest, s, log, F, H, I, ρ, a, w, hrest, hnow, hrun => by
    have ho : ops[s]? = some o := by
      have : (ops.toList.drop s)[0]? = some o := by rw [← hrest]; rfl
      rw [List.getElem?_drop] at this
      simpa using this
    have hrest' : rest = ops.toList.drop (s + 1) := by
      have : (ops.toList.drop s).drop 1 = rest := by rw [← hrest]; rfl
      rw [List.drop_drop] at this
      exact this.symm
    rw [List.length_cons, List.range'_succ]
    unfold runOps at hrun
    rw [cond_eq_ite] at hrun
    split at hrun
    case isFalse => cases hrun
    rename_i hd
    have ih := fun log F H I ρ a w hnow hrun => runOps_seq ok hcall hQ rest (s + 1) log F H I ρ a w hrest' hnow hrun
    have exec : ∀ F0, Now E e N F0 H I ρ a w → (match stepOp E false call F0 H o.op with
        | some (v, H', l) => runOps E false N call ops.toList rest (l :: log) (setF F0 o.dst v) H' k
        | none => none) = some r → Region.wanted o (yielded ops a.tmps) = true → wpOps E.P ops Q (s :: List.range' (s + 1) rest.length) a w := by
      intro F0 hn0 hr hw
      split at hr
      case h_2 => cases hr
      rename_i v H' l hs
      exact wpOps_here ho hw (stepOp_ok ok hcall hn0 hs hd (fun I' ρ' a' w' hn' => ih _ _ _ I' ρ' a' w' hn' hr))
    have skip : ∀ F0 log', Now E e N F0 H I ρ a w → runOps E false N call ops.toList rest log' (setF F0 o.dst (.tuple [])) H k = some r → Region.wanted o (yielded ops a.tmps) = false →
        wpOps E.P ops Q (s :: List.range' (s + 1) rest.length) a w := by
      intro F0 log' hn0 hr hw
      exact wpOps_skip ho hw (ih _ _ _ I ρ _ w (hn0.skip hd) hr)
    split at hrun
    · rename_i hg
      exact exec F hnow hrun (by simp [Region.wanted, hg])
    · rename_i j want hg
      split at hrun
      case h_1 => cases hrun
      rename_i d hgs
      obtain ⟨hy1, hy2⟩ := yielded_of hnow hgs
      split at hrun
      · rename_i b hb
        have hyb := hy1 b hb
        have hvb := hnow.frm.2 d
        rw [hb] at hvb
        have hw : Region.wanted o (yielded ops a.tmps) = (b == want) := by simp [Region.wanted, hg, hyb]
        cases b
        · simp only [cond_false] at hrun
          have hn0 := hnow.refine (d := d) (v := .bool false) hvb
          cases want
          · simp only [cond_false] at hrun
            exact exec _ hn0 hrun (by rw [hw]; rfl)
          · simp only [cond_true] at hrun
            exact skip _ _ hn0 hrun (by rw [hw]; rfl)
        · simp only [cond_true] at hrun
          have hn0 := hnow.refine (d := d) (v := .bool true) hvb
          cases want
          · simp only [cond_false] at hrun
            exact skip _ _ hn0 hrun (by rw [hw]; rfl)
          · simp only [cond_true] at hrun
            exact exec _ hn0 hrun (by rw [hw]; rfl)
      · rename_i hb
        have hyb := hy2 hb
        exact skip F _ hnow hrun (by simp [Region.wanted, hg, hyb])
      · cases hrun
end
end Go.Ax

/- AxGc: what may be forgotten: slots behind a region, blocks at a loop's head. -/
namespace Go.Ax
section
variable {E : Env} {e : Entry} {N : Nat} {F : Frm} {H : Heap} {I : Nat → Prop} {ρ : PMap} {a : Act} {w : World}

theorem getF_keep (F : Frm) : ∀ (keep : List Nat) (s : Nat), getF (keepF keep F) s = if keep.contains s then getF F s else .junk
  | [], s => by simp [keepF, getF]
  | t :: keep, s => by
    have ih := getF_keep F keep s
    simp only [keepF] at ih ⊢
    simp only [List.map_cons, getF, nbeq, ih]
    by_cases hts : t = s
    · subst hts; simp
    · have : (s == t) = false := by simpa using fun h => hts h.symm
      have hc : (t :: keep).contains s = keep.contains s := by rw [List.contains_cons, this, Bool.false_or]
      rw [hc, beq_eq_false_iff_ne.2 hts]; rfl
theorem Now.keep (h : Now E e N F H I ρ a w) (keep : List Nat) : Now E e N (keepF keep F) H I ρ a w :=
  { h with frm := ⟨h.frm.1, fun s => by
      rw [getF_keep]
      split
      · exact h.frm.2 s
      · simp [VRel]⟩ }

theorem getF_ren (π : Nat → Option Nat) : ∀ (F : Frm) (s : Nat), getF (renF π F) s = ren π (getF F s)
  | [], s => by simp [renF, getF, ren]
  | (t, v) :: F, s => by
    have ih := getF_ren π F s
    simp only [renF] at ih ⊢
    simp only [List.map_cons, getF, nbeq, ih]
    cases h : (t == s) <;> simp

/-- Blocks are renumbered; those below the entry's bound stay. -/
theorem Now.gc (h : Now E e N F H I ρ a w) {σ : List Nat} (hn : σ.Nodup) (hlow : ∀ b ∈ σ, e.m ≤ b) :
    ∃ ρ', Now E e N (renF (gcPi e.m σ) F) (gcH e.m σ H) I ρ' a w := by
  have hlen : (gcH e.m σ H).length = e.m + σ.length := by
    have := h.low
    simp [gcH, smallH]; omega
  have hπ : ∀ b b' m, gcPi e.m σ b = some b' → ρ b = some m → (if b' < e.m then ρ b' else (σ[b' - e.m]?).bind ρ) = some m := by
    intro b b' m hp hb
    simp only [gcPi] at hp
    rw [cond_eq_ite] at hp
    split at hp
    · rename_i hlt
      cases hp
      rw [if_pos (by simpa [Nat.blt_eq] using hlt)]; exact hb
    · obtain ⟨j, hj, rfl⟩ := map_some_inv hp
      rw [if_neg (by omega), Nat.add_sub_cancel_left, idxOf_get hj]
      exact hb
  refine ⟨fun b => if b < e.m then ρ b else (σ[b - e.m]?).bind ρ, h.imm, fun b hb => ?_, h.ext, ?_, ?_, ?_, ?_, h.defers⟩
  · show (if b < e.m then ρ b else _) = _
    rw [if_pos hb]; exact h.map b hb
  · refine h.rel.rename (π := gcPi e.m σ) hπ ?_ ?_
    · intro b' o' ho
      simp only [HeapF, gcH] at ho
      have hml : (H.take e.m).length = e.m := by have := h.low; simp; omega
      rcases Nat.lt_or_ge b' e.m with hb | hb
      · rw [List.getElem?_append_left (by rw [List.length_map, hml]; exact hb), List.getElem?_map, List.getElem?_take, if_pos hb] at ho
        cases hx : H[b']? with
        | none => rw [hx] at ho; simp at ho
        | some ob =>
          rw [hx] at ho
          simp only [Option.map_some, Option.join_some] at ho
          obtain ⟨o, rfl, rfl⟩ := map_some_inv ho
          refine ⟨b', o, by simp [HeapF, hx], ?_, rfl⟩
          simp only [gcPi]
          rw [cond_eq_ite, if_pos (by simpa [Nat.blt_eq] using hb)]
      · rw [List.getElem?_append_right (by rw [List.length_map, hml]; exact hb)] at ho
        simp only [List.length_map, hml, smallH, List.getElem?_map] at ho
        cases hx : σ[b' - e.m]? with
        | none => rw [hx] at ho; simp at ho
        | some b =>
          rw [hx] at ho
          simp only [Option.map_some, Option.join_some] at ho
          obtain ⟨o, ho1, rfl⟩ := map_some_inv ho
          refine ⟨b, o, ho1, ?_, rfl⟩
          have hbl := hlow b (List.mem_of_getElem? hx)
          simp only [gcPi]
          rw [cond_eq_ite, if_neg (by simpa [Nat.blt_eq] using hbl), idxOf_of_get hn hx]
          simp only [Option.map_some, Option.some.injEq]; omega
    · intro b m hb
      split at hb
      · exact h.rel.dom b m hb
      · cases hx : σ[b - e.m]? with
        | none => rw [hx] at hb; simp at hb
        | some b' => rw [hx] at hb; exact h.rel.dom b' m hb
  · intro b hb
    rw [hlen] at hb
    show (if b < e.m then ρ b else _) = _
    rw [if_neg (by omega), List.getElem?_eq_none (by omega)]; rfl
  · refine ⟨h.frm.1, fun s => ?_⟩
    rw [getF_ren]
    exact VRel.ren hπ _ (h.frm.2 s)
  · rw [hlen]; omega

/-- The count of draws moves alone. -/
theorem Now.drew (h : Now E e N F H I ρ a w) : Now E e N F H I ρ a { w with drawn := w.drawn + 1 } := by
  have s : SameMem w { w with drawn := w.drawn + 1 } := ⟨rfl, rfl, rfl, rfl⟩
  exact ⟨h.imm, h.map, h.ext.trans h.imm (s.ext I e.K), h.rel.same s, h.nrel, FRel.mono h.frm (fun v c hv => VRel.mono (w := w) (w' := { w with drawn := w.drawn + 1 }) (fun _ h => h) (fun _ _ => rfl) v (fun _ _ h => h) hv), h.low, h.defers⟩
end

/-! ### a loop that is counted -/
theorem wp_loop_n {P : Program} {c : Code} {Q : Exit → Act → World → Prop} (Inv : Nat → Act → World → Prop)
    (round : ∀ n a w, Inv (n + 1) a w → c.wp P (Exit.then (Inv n) Q) a w) (zero : ∀ a w, ¬ Inv 0 a w) {n : Nat} {a : Act} {w : World} (h : Inv n a w) : (Code.loop c).wp P Q a w := by
  intro b k cs
  have key : ∀ n a w, Inv n a w → ∃ e a' w', Q e a' w' ∧ Arrives P (lone (b.at a (.code c :: .inLoop c :: k)) cs w) b k cs e a' w' := by
    intro n
    induction n with
    | zero => intro a w h; exact absurd h (zero a w)
    | succ n ih =>
      intro a w hI
      obtain ⟨e, a₁, w₁, hq, harr⟩ := round n a w hI b (.inLoop c :: k) cs
      cases e with
      | normal =>
        obtain ⟨e₂, a₂, w₂, hq₂, harr₂⟩ := ih a₁ w₁ hq
        exact ⟨e₂, a₂, w₂, hq₂, .of_steps (Steps.trans harr (.one step_inLoop)) harr₂⟩
      | exit id => exact ⟨_, a₁, w₁, hq, .pass (x := .inLoop c) rfl (fun _ _ => .inl (by simp)) harr⟩
      | goto l => exact ⟨_, a₁, w₁, hq, .pass (x := .inLoop c) rfl (fun _ _ => .inl (by simp)) harr⟩
      | ret => exact ⟨_, a₁, w₁, hq, .pass (x := .inLoop c) rfl (fun _ _ => .inl (by simp)) harr⟩
      | panic ch => exact ⟨_, a₁, w₁, hq, .pass (x := .inLoop c) rfl (fun _ _ => .inl (by simp)) harr⟩
      | outgrown => exact ⟨_, a₁, w₁, hq, .pass (x := .inLoop c) rfl (fun _ _ => .inl (by simp)) harr⟩
  obtain ⟨e, a', w', hq, harr⟩ := key n a w h
  exact ⟨e, a', w', hq, .of_steps (.one step_loop) harr⟩
end Go.Ax

/- AxLoc: what an operation looks at: the slots of its operands, the blocks that its operands name. -/
namespace Go.Ax
section
variable {E : Env} {n : Nat} {h h' : FHeap}

theorem arowsOf_local {x : AV} (k : Nat) (hh : ∀ b ∈ topRef x, h b = h' b) : arowsOf h k x = arowsOf h' k x := by
  cases x <;> simp only [topRef, List.mem_singleton, forall_eq] at hh <;> simp only [arowsOf]
  rw [hh]
theorem alen_local {x : AV} (t : TypeId) (hh : ∀ b ∈ topRef x, h b = h' b) : alen E h t x = alen E h' t x := by
  unfold alen
  generalize E.und t = u
  cases x <;> simp only [topRef, List.mem_singleton, forall_eq] at hh <;> (rcases u with _ | d; · rfl) <;> cases d <;> first | rfl | (simp only [hh]; done)
theorem aload_local {x : AV} (t : TypeId) (hh : ∀ b ∈ topRef x, h b = h' b) : aload E h t x = aload E h' t x := by
  cases x <;> simp only [topRef, List.mem_singleton, forall_eq] at hh <;> simp only [aload]
  rw [hh]
theorem astore_local {p x : AV} (t : TypeId) (hh : ∀ b ∈ topRef p, h b = h' b) : astore E h t p x = astore E h' t p x := by
  cases p <;> simp only [topRef, List.mem_singleton, forall_eq] at hh <;> simp only [astore]
  rw [hh]
theorem aslice_local {x : AV} (t : TypeId) (lo hi mx : Option AV) (hh : ∀ b ∈ topRef x, h b = h' b) : aslice E h t x lo hi mx = aslice E h' t x lo hi mx := by
  unfold aslice
  generalize E.und t = u
  cases x <;> simp only [topRef, List.mem_singleton, forall_eq] at hh <;> (rcases u with _ | d; · rfl) <;> cases d <;> first | rfl | (simp only [hh]; done)
theorem aindexAddr_local {x : AV} (t : TypeId) (i : AV) (hh : ∀ b ∈ topRef x, h b = h' b) : aindexAddr E h t x i = aindexAddr E h' t x i := by
  unfold aindexAddr
  generalize E.und t = u
  cases x <;> simp only [topRef, List.mem_singleton, forall_eq] at hh <;> (rcases u with _ | d; · rfl) <;> cases d <;> first | rfl | (simp only [hh]; done)
theorem amapOf_local {x : AV} (hh : ∀ b ∈ topRef x, h b = h' b) : amapOf h x = amapOf h' x := by
  cases x <;> simp only [topRef, List.mem_singleton, forall_eq] at hh <;> simp only [amapOf]
  rw [hh]
theorem alookup_local {x : AV} (t : TypeId) (k : AV) (ok : Bool) (hh : ∀ b ∈ topRef x, h b = h' b) : alookup E h t x k ok = alookup E h' t x k ok := by
  simp only [alookup, amapOf_local hh]
theorem apairs_local {x : AV} (t : TypeId) (k : AV) (hh : ∀ b ∈ topRef x, h b = h' b) : apairs E h t x k = apairs E h' t x k := by
  unfold apairs
  generalize E.und t = u
  cases x <;> simp only [topRef, List.mem_singleton, forall_eq] at hh <;> (rcases u with _ | d; · rfl) <;> cases d <;> first | rfl | (simp only [hh]; done)
theorem aentryStore_local {x : AV} (s v : AV) (hh : ∀ b ∈ topRef x, h b = h' b) : aentryStore h x s v = aentryStore h' x s v := by
  unfold aentryStore
  split
  · rw [hh _ (by simp [topRef])]
  · rfl
theorem anext_local {x : AV} (s : Bool) (hh : ∀ b ∈ topRef x, h b = h' b) : anext h x s = anext h' x s := by
  unfold anext
  split
  · rw [hh _ (by simp [topRef])]
  · rfl
theorem aconvH_local {x : AV} (s d : TypeId) (hh : ∀ b ∈ topRef x, h b = h' b) : aconvH E h s d x = aconvH E h' s d x := by
  have key := fun k => arowsOf_local k hh
  unfold aconvH
  split
  · rfl
  · rw [key]
  · rfl
theorem aappend_local {s x : AV} (st xt : TypeId) (hs : ∀ b ∈ topRef s, h b = h' b) (hx : ∀ b ∈ topRef x, h b = h' b) : aappend E h n st xt s x = aappend E h' n st xt s x := by
  cases s <;> simp only [topRef, List.mem_singleton, forall_eq] at hs <;> simp only [aappend, arowsOf_local _ hx]
  rw [hs]
theorem ablt_local (b : Builtin) (ts : List TypeId) (args : List AV) (hh : ∀ b ∈ args.flatMap topRef, h b = h' b) : ablt E n h b ts args = ablt E n h' b ts args := by
  unfold ablt
  split
  · rw [alen_local _ (fun b hb => hh b (by simpa using hb))]
  · rfl
  · rw [aappend_local _ _ (fun b hb => hh b (by simp [hb])) (fun b hb => hh b (by simp [hb]))]
  · rfl
  · rfl
  · rfl

theorem aop_local {op : Op} {v : Operand → AV} (hh : ∀ b ∈ aneeds op v, h b = h' b) : aop E n h op v = aop E n h' op v := by
  cases op <;> simp only [aneeds] at hh <;> simp only [aop]
  case load => rw [aload_local _ hh]
  case store => rw [astore_local _ hh]
  case convert => rw [aconvH_local _ _ hh]
  case slice => rw [aslice_local _ _ _ _ hh]
  case indexAddr => rw [aindexAddr_local _ _ hh]
  case lookup => rw [alookup_local _ _ _ hh]
  case mapUpdate => simp only [amapUpdate, apairs_local _ _ hh]
  case insert => simp only [amapUpdate, apairs_local _ _ hh]
  case mapEntry => simp only [amapEntry, apairs_local _ _ hh]
  case entryStore => rw [aentryStore_local _ _ hh]
  case next => rw [anext_local _ hh]
  case call c =>
    obtain ⟨callee, args, ts⟩ := c
    cases callee with
    | builtin b =>
      simp only at hh ⊢
      exact ablt_local _ _ _ (by simpa [List.flatMap_map] using hh)
    | _ => rfl

theorem aop_congr {op : Op} {v v' : Operand → AV} (hv : ∀ x ∈ op.operands, v x = v' x) : aop E n h op v = aop E n h op v' := by
  have pairs : ∀ ps : Array (Nat × Operand), (∀ x ∈ (ps.toList.map (·.2)).toArray, v x = v' x) → (ps.toList.map fun p => (p.1, v p.2)) = (ps.toList.map fun p => (p.1, v' p.2)) := fun ps hp =>
    List.map_congr_left fun p hm => by rw [hp p.2 (by simp only [List.mem_toArray, List.mem_map]; exact ⟨p, hm, rfl⟩)]
  cases op <;> simp only [Op.operands] at hv <;> simp only [aop]
  case build t ps => rw [pairs ps hv]
  case buildSlice t n ps => rw [pairs ps hv]
  case makeFunc fn first captured =>
    rw [List.map_congr_left (l := first.toList) fun x hx => hv x (by simp only [Array.mem_append]; exact .inl (by simpa using hx)), List.map_congr_left (l := captured.toList) fun x hx => hv x (by simp only [Array.mem_append]; exact .inr (by simpa using hx))]
  case call c =>
    obtain ⟨callee, args, ts⟩ := c
    cases callee with
    | builtin b =>
      simp only
      rw [List.map_congr_left (l := args.toList) fun x hx => hv x (by simp only [Call.operands]; simp; simpa using hx)]
    | _ => rfl
  case makeMap t r => cases r <;> simp_all
  case slice t x lo hi mx => cases lo <;> cases hi <;> cases mx <;> simp_all
  all_goals (first | rfl | (simp_all; done))

theorem aneeds_congr {op : Op} {v v' : Operand → AV} (hv : ∀ x ∈ op.operands, v x = v' x) : aneeds op v = aneeds op v' := by
  cases op <;> simp only [Op.operands] at hv <;> simp only [aneeds]
  case slice t x lo hi mx => rw [hv x (by simp)]
  case call c =>
    obtain ⟨callee, args, ts⟩ := c
    cases callee with
    | builtin b =>
      simp only
      have : ∀ l : List Operand, (∀ x ∈ l, v x = v' x) → (l.flatMap fun x => topRef (v x)) = l.flatMap fun x => topRef (v' x) := by
        intro l hl
        induction l with
        | nil => rfl
        | cons a l ih => simp only [List.flatMap_cons]; rw [hl a (by simp), ih (fun x hx => hl x (by simp [hx]))]
      exact this _ fun x hx => hv x (by simp only [Call.operands]; simp; simpa using hx)
    | _ => rfl
  all_goals (first | rfl | (simp_all; done))
end
end Go.Ax

/- AxOrd: operations in any order that their edges allow: what the executed ones amount to, in text order. -/
namespace Go.Ax

/-! ### lists that grow at the front, numbered from the back -/
section
variable {R V : Type}
def nth : List R → Nat → Option R
  | [], _ => none
  | r :: rest, j => if j = rest.length then some r else nth rest j
def pre : List R → Nat → List R
  | [], _ => []
  | _ :: rest, i => if i = rest.length then rest else pre rest i
theorem nth_lt : ∀ {l : List R} {i : Nat} {r : R}, nth l i = some r → i < l.length
  | [], i, r, h => by simp [nth] at h
  | a :: rest, i, r, h => by
    unfold nth at h
    split at h
    · simp; omega
    · have := nth_lt h; simp; omega
theorem nth_some : ∀ {l : List R} {i : Nat}, i < l.length → ∃ r, nth l i = some r
  | [], i, h => by simp at h
  | a :: rest, i, h => by
    unfold nth
    split
    · exact ⟨a, rfl⟩
    · exact nth_some (by simp at h; omega)
theorem nth_tail {a : R} {l : List R} {i : Nat} {r : R} (h : nth l i = some r) : nth (a :: l) i = some r := by
  have := nth_lt h
  unfold nth; rw [if_neg (by omega)]; exact h
theorem nth_head (a : R) (l : List R) : nth (a :: l) l.length = some a := by simp [nth]

/-- What those of a set have left, the later above the earlier. -/
def gL (o : R → Nat → Option V) (g0 : Nat → V) (S : Nat → Bool) : List R → Nat → V
  | [] => g0
  | r :: rest => if S rest.length then fun s => (o r s).getD (gL o g0 S rest s) else gL o g0 S rest
def every : Nat → Bool := fun _ => true
def plus (S : Nat → Bool) (i : Nat) : Nat → Bool := fun j => j == i || S j

variable {o : R → Nat → Option V} {g0 : Nat → V} {S : Nat → Bool}
theorem gL_every {s : Nat} : ∀ {l : List R}, (∀ j r', nth l j = some r' → (o r' s).isSome → S j = true) → gL o g0 S l s = gL o g0 every l s
  | [], _ => rfl
  | a :: rest, h => by
    have ih := gL_every (l := rest) (fun j r' hj => h j r' (nth_tail hj))
    simp only [gL, every]
    cases ha : o a s with
    | none => split <;> simp [ha, ih]
    | some v => rw [h _ a (nth_head a rest) (by simp [ha])]; simp [ha]
theorem gL_at {i s : Nat} {r : R} : ∀ {l : List R}, nth l i = some r → (∀ j r', nth l j = some r' → (o r' s).isSome → (j < i → S j = true) ∧ (i ≤ j → S j = false)) →
    gL o g0 S l s = gL o g0 every (pre l i) s
  | [], h, _ => by simp [nth] at h
  | a :: rest, h, hs => by
    have hhead : i ≤ rest.length → gL o g0 S (a :: rest) s = gL o g0 S rest s := by
      intro hi
      simp only [gL]
      split
      · rename_i hS
        cases ha : o a s with
        | none => simp [ha]
        | some v => rw [(hs _ a (nth_head a rest) (by simp [ha])).2 hi] at hS; cases hS
      · rfl
    unfold nth at h
    split at h
    · rename_i hi
      subst hi
      rw [hhead (Nat.le_refl _)]
      simp only [pre, if_true]
      exact gL_every (fun j r' hj ho => (hs j r' (nth_tail hj) ho).1 (nth_lt hj))
    · rename_i hi
      have := nth_lt h
      rw [hhead (by omega)]
      simp only [pre, if_neg hi]
      exact gL_at h (fun j r' hj ho => hs j r' (nth_tail hj) ho)
theorem gL_same {S' : Nat → Bool} : ∀ {l : List R}, (∀ j, j < l.length → S j = S' j) → gL o g0 S l = gL o g0 S' l
  | [], _ => rfl
  | a :: rest, h => by
    simp only [gL]
    rw [h rest.length (by simp), gL_same (l := rest) (fun j hj => h j (by simp; omega))]
theorem gL_add {i : Nat} {r : R} : ∀ {l : List R}, nth l i = some r → S i = false → (∀ k r', nth l k = some r' → i < k → S k = true → ∀ s, (o r s).isSome → o r' s = none) →
    gL o g0 (plus S i) l = fun s => (o r s).getD (gL o g0 S l s)
  | [], h, _, _ => by simp [nth] at h
  | a :: rest, h, hS, hk => by
    unfold nth at h
    split at h
    · rename_i hi
      cases h
      have : gL o g0 (plus S i) rest = gL o g0 S rest := gL_same fun j hj => by simp [plus]; omega
      simp only [gL, this]
      subst hi
      simp [plus, hS]
    · rename_i hi
      have hlt := nth_lt h
      have ih := gL_add h hS (fun k r' hr => hk k r' (nth_tail hr))
      simp only [gL, ih]
      have hp : plus S i rest.length = S rest.length := by simp [plus]; intro he; omega
      rw [hp]
      split
      · rename_i hSr
        funext s
        cases hr : o r s with
        | none => simp
        | some v => rw [hk _ a (nth_head a rest) hlt hSr s (by simp [hr])]; simp
      · rfl
end

/-! ### edges -/
def SClosed (all : List Oper) (S : Nat → Bool) (j : Nat) : Prop := ∀ o, all[j]? = some o → ∀ e ∈ o.after.toList, Region.binds .any e = true → S e.on = true

theorem isBefore_in {all : List Oper} {S : Nat → Bool} (hS : ∀ j, S j = true → SClosed all S j) (i : Nat) : ∀ n j, SClosed all S j → isBefore all i n j = true → S i = true
  | 0, j, _, h => by simp [isBefore] at h
  | n + 1, j, hj, h => by
    unfold isBefore at h
    split at h
    · rename_i o ho
      simp only [List.any_eq_true, Bool.and_eq_true, Bool.or_eq_true, beq_iff_eq] at h
      obtain ⟨e, he, hb, h⟩ := h
      have hon := hj o ho e he hb
      rcases h with rfl | h
      · exact hon
      · exact isBefore_in hS i n e.on (hS _ hon) h
    · cases h
theorem ordered_in {all : List Oper} {S : Nat → Bool} (hS : ∀ j, S j = true → SClosed all S j) {i j : Nat} (hj : SClosed all S j) (h : ordered all i j = true) : S i = true := by
  unfold ordered at h
  rw [Bool.or_eq_true] at h
  rcases h with h | h
  · unfold edgeOf at h
    split at h
    · rename_i o ho
      simp only [List.any_eq_true, Bool.and_eq_true, beq_iff_eq] at h
      obtain ⟨e, he, hb, rfl⟩ := h
      exact hj o ho e he hb
    · cases h
  · exact isBefore_in hS i _ j hj h

theorem logRow_ok {all : List Oper} {j : Nat} {y : LogE} : ∀ {l : List LogE}, logOk.logRow all j y l.length l = true → ∀ i x, nth l i = some x → x.clash y = true → ordered all i j = true
  | [], _, i, x, h, _ => by simp [nth] at h
  | a :: rest, hl, i, x, h, hc => by
    simp only [List.length_cons, logOk.logRow, Bool.and_eq_true, Bool.or_eq_true, Bool.not_eq_true'] at hl
    unfold nth at h
    split at h
    · rename_i hi
      cases h; subst hi
      rcases hl.1 with h' | h'
      · rw [hc] at h'; cases h'
      · exact h'
    · exact logRow_ok hl.2 i x h hc
theorem logOk_ok {all : List Oper} : ∀ {l : List LogE}, logOk all l.length l = true → ∀ i j x y, i < j → nth l i = some x → nth l j = some y → x.clash y = true → ordered all i j = true
  | [], _, i, j, x, y, _, h, _, _ => by simp [nth] at h
  | a :: rest, hl, i, j, x, y, hij, hi, hj, hc => by
    simp only [List.length_cons, logOk, Bool.and_eq_true] at hl
    unfold nth at hj
    split at hj
    · rename_i hjr
      cases hj; subst hjr
      unfold nth at hi
      rw [if_neg (by omega)] at hi
      exact logRow_ok hl.1 i x hi hc
    · have := nth_lt hj
      unfold nth at hi
      rw [if_neg (by omega)] at hi
      exact logOk_ok hl.2 i j x y hij hi hj hc

/-! ### what is asked of a region's text -/
def tmpsOf (l : List Operand) : List Nat := l.filterMap fun | .tmp t => some t | _ => none
def looks (all : List Oper) (o : Oper) : List Nat :=
  tmpsOf o.op.operands.toList ++ (match o.guard with
    | some (g, _) => (guardSlot all g).toList
    | none => [])
def slotsMeet (all : List Oper) (x y : Oper) : Bool :=
  (match x.dst with | some d => (looks all y).contains d | none => false) ||
  (match y.dst with | some d => (looks all x).contains d | none => false) ||
  (match x.dst, y.dst with | some d, some d' => d == d' | _, _ => false)
def drawRow (all : List Oper) (j : Nat) (y : Oper) : Nat → List Oper → Bool
  | _, [] => true
  | i, x :: r => (Nat.ble j i || !(slotsMeet all x y) || ordered all i j) && drawRow all j y (i + 1) r
def drawRows (all : List Oper) : Nat → List Oper → Bool
  | _, [] => true
  | j, y :: r => y.after.toList.all (fun e => !(Region.binds .any e) || Nat.blt e.on j) && drawRow all j y 0 all && drawRows all (j + 1) r
def drawOk (all : List Oper) : Bool := drawRows all 0 all

theorem drawRow_ok {all : List Oper} {j : Nat} {y : Oper} : ∀ {l : List Oper} {s : Nat}, drawRow all j y s l = true → ∀ i x, l[i]? = some x → s + i < j → slotsMeet all x y = true → ordered all (s + i) j = true
  | [], s, _, i, x, h, _, _ => by simp at h
  | a :: r, s, hl, 0, x, h, hij, hm => by
    simp only [drawRow, Bool.and_eq_true, Bool.or_eq_true, Bool.not_eq_true', Nat.ble_eq] at hl
    simp only [List.getElem?_cons_zero, Option.some.injEq] at h
    subst h
    rcases hl.1 with (h | h) | h
    · omega
    · rw [hm] at h; cases h
    · exact h
  | a :: r, s, hl, i + 1, x, h, hij, hm => by
    simp only [drawRow, Bool.and_eq_true] at hl
    have := drawRow_ok hl.2 i x (by simpa using h) (by omega) hm
    rw [show s + (i + 1) = s + 1 + i by omega]; exact this
theorem drawRows_ok {all : List Oper} : ∀ {l : List Oper} {s : Nat}, drawRows all s l = true → ∀ j y, l[j]? = some y →
    (∀ e ∈ y.after.toList, Region.binds .any e = true → e.on < s + j) ∧ ∀ i x, all[i]? = some x → i < s + j → slotsMeet all x y = true → ordered all i (s + j) = true
  | [], s, _, j, y, h => by simp at h
  | a :: r, s, hl, 0, y, h => by
    simp only [drawRows, Bool.and_eq_true, List.all_eq_true, Bool.or_eq_true, Bool.not_eq_true', Nat.blt_eq] at hl
    simp only [List.getElem?_cons_zero, Option.some.injEq] at h
    subst h
    refine ⟨fun e he hb => (hl.1.1 e he).resolve_left (by simp [hb]), fun i x hx hi hm => ?_⟩
    have := drawRow_ok hl.1.2 i x hx (by omega) hm
    simpa using this
  | a :: r, s, hl, j + 1, y, h => by
    simp only [drawRows, Bool.and_eq_true] at hl
    have := drawRows_ok hl.2 j y (by simpa using h)
    rw [show s + (j + 1) = s + 1 + j by omega]; exact this
theorem drawOk_ok {all : List Oper} (h : drawOk all = true) {j : Nat} {y : Oper} (hy : all[j]? = some y) :
    (∀ e ∈ y.after.toList, Region.binds .any e = true → e.on < j) ∧ ∀ i x, all[i]? = some x → i < j → slotsMeet all x y = true → ordered all i j = true := by
  have := drawRows_ok h j y hy
  simpa using this
end Go.Ax

/- AxDraw: a region that draws its order: one run in text order stands for every order. -/
namespace Go.Ax

theorem aop_still {E : Env} {n n' : Nat} {h : FHeap} {op : Op} {v : Operand → AV} {x : AV} {e : Eff} (ha : aop E n h op v = some (x, e)) (he : e.fresh = false) : aop E n' h op v = some (x, e) := by
  have app : ∀ st xt s y, aappend E h n st xt s y = some (x, e) → aappend E h n' st xt s y = some (x, e) := by
    intro st xt s y hy
    unfold aappend at hy ⊢
    simp only [cond_eq_ite] at hy ⊢
    repeat' split at hy
    all_goals first
      | (cases hy; done)
      | (cases hy; simp [Eff.fresh] at he; done)
      | (simp_all; done)
      | (simp_all; rename_i hh; exact hh.2)
  have blt : ∀ b ts args, ablt E n h b ts args = some (x, e) → ablt E n' h b ts args = some (x, e) := by
    intro b ts args hb
    unfold ablt at hb ⊢
    split at hb
    all_goals first
      | exact hb
      | exact app _ _ _ _ hb
  cases op
  case alloc t =>
    simp only [aop, anew, cond_eq_ite] at ha
    repeat' split at ha
    all_goals cases ha
    simp [Eff.fresh] at he
  case box t y =>
    simp only [aop, abox, cond_eq_ite] at ha
    repeat' split at ha
    all_goals cases ha
    all_goals simp [Eff.fresh] at he
  case buildSlice =>
    simp only [aop, abuildSlice, cond_eq_ite] at ha
    repeat' split at ha
    all_goals cases ha
    all_goals simp [Eff.fresh] at he
  case makeMap =>
    simp only [aop] at ha
    repeat' split at ha
    all_goals cases ha
    all_goals simp [Eff.fresh] at he
  case makeSlice =>
    simp only [aop, amakeSlice, cond_eq_ite] at ha
    repeat' split at ha
    all_goals cases ha
    all_goals simp [Eff.fresh] at he
  case range =>
    simp only [aop, arange] at ha
    repeat' split at ha
    all_goals cases ha
    all_goals simp [Eff.fresh] at he
  case call c =>
    obtain ⟨callee, args, ts⟩ := c
    cases callee with
    | builtin b => exact blt _ _ _ ha
    | _ => cases ha
  all_goals exact ha

structure Rec where
  dst : Option Nat
  v : AV
  ov : Nat → Option (Option AObj)
  fresh : Bool
  log : LogE
def fov (r : Rec) (s : Nat) : Option AV := if r.dst = some s then some r.v else none
def hov (r : Rec) (b : Nat) : Option (Option AObj) := r.ov b
def cnt (m0 : Nat) : List Rec → Nat
  | [] => m0
  | r :: rest => bif r.fresh then cnt m0 rest + 1 else cnt m0 rest
/-- The blocks that the executed ones have made. -/
def made (m0 : Nat) (S : Nat → Bool) : List Rec → Nat → Prop
  | [], _ => False
  | r :: rest, b => (S rest.length = true ∧ r.fresh = true ∧ b = cnt m0 rest) ∨ made m0 S rest b
theorem made_lt {m0 : Nat} {S : Nat → Bool} : ∀ {l : List Rec} {b : Nat}, made m0 S l b → b < cnt m0 l
  | [], b, h => h.elim
  | r :: rest, b, h => by
    simp only [cnt, cond_eq_ite]
    rcases h with ⟨_, hf, rfl⟩ | h
    · rw [if_pos hf]; omega
    · have := made_lt h; split <;> omega
theorem cnt_pre {m0 : Nat} {i : Nat} {r : Rec} : ∀ {l : List Rec}, nth l i = some r → cnt m0 (pre l i) ≤ cnt m0 l ∧ (r.fresh = true → cnt m0 (pre l i) < cnt m0 l)
  | [], h => by simp [nth] at h
  | a :: rest, h => by
    unfold nth at h
    simp only [pre, cnt, cond_eq_ite]
    split at h
    · rename_i hi
      cases h
      rw [if_pos hi]
      refine ⟨by split <;> omega, fun hf => ?_⟩
      rw [if_pos hf]; omega
    · rename_i hi
      have := cnt_pre (m0 := m0) h
      rw [if_neg hi]
      refine ⟨by split <;> omega, fun hf => by have := this.2 hf; split <;> omega⟩
theorem made_at {m0 : Nat} {S : Nat → Bool} {i : Nat} {r : Rec} : ∀ {l : List Rec}, nth l i = some r → r.fresh = true → made m0 S l (cnt m0 (pre l i)) → S i = true
  | [], h, _, _ => by simp [nth] at h
  | a :: rest, h, hf, hm => by
    unfold nth at h
    split at h
    · rename_i hi
      cases h
      simp only [pre, if_pos hi] at hm
      rcases hm with ⟨hS, _⟩ | hm
      · rw [hi]; exact hS
      · exact absurd (made_lt hm) (Nat.lt_irrefl _)
    · rename_i hi
      simp only [pre, if_neg hi] at hm
      have := (cnt_pre (m0 := m0) h).2 hf
      rcases hm with ⟨_, _, he⟩ | hm
      · omega
      · exact made_at h hf hm
theorem made_plus {m0 : Nat} {S : Nat → Bool} {i : Nat} {r : Rec} {b : Nat} : ∀ {l : List Rec}, nth l i = some r → (made m0 S l b ∨ (r.fresh = true ∧ b = cnt m0 (pre l i))) → made m0 (plus S i) l b
  | [], h, _ => by simp [nth] at h
  | a :: rest, h, hb => by
    have mono : ∀ {l : List Rec}, made m0 S l b → made m0 (plus S i) l b := by
      intro l
      induction l with
      | nil => exact fun h => h
      | cons a rest ih => exact fun h => h.imp (fun ⟨h1, h2⟩ => ⟨by simp [plus, h1], h2⟩) ih
    unfold nth at h
    rcases hb with hb | ⟨hf, hb⟩
    · exact mono hb
    · split at h
      · rename_i hi
        cases h
        simp only [pre, if_pos hi] at hb
        exact .inl ⟨by simp [plus, hi], hf, hb⟩
      · rename_i hi
        simp only [pre, if_neg hi] at hb
        exact .inr (made_plus h (.inr ⟨hf, hb⟩))

structure DNow (E : Env) (e : Entry) (N m0 : Nat) (C : Nat → Prop) (f : Nat → AV) (h : FHeap) (I : Nat → Prop) (ρ : PMap) (a : Act) (w : World) : Prop where
  imm : ∀ c, e.I c → I c
  map : ∀ b, b < e.m → ρ b = e.ρ b
  ext : Ext e.I e.K e.w w
  rel : HRel E.G I e.K ρ h w
  nrel : ∀ b, m0 ≤ b → ¬ C b → ρ b = none
  fin : ∃ M, NRel ρ M
  size : a.tmps.size = N
  frm : ∀ s, VRel I w ρ (f s) (a.tmps.getD s undef)
  defers : a.defers = e.defers

def opvf (E : Env) (f : Nat → AV) : Operand → AV
  | .tmp t => f t
  | .const v => constV v
  | .global g => match E.G g with | some cs => .iptr cs | none => .junk
  | .func f => .func (.func f) [] []
theorem opvf_getF (E : Env) (F : Frm) (x : Operand) : opvf E (getF F) x = opv E F x := by cases x <;> rfl
section
variable {E : Env} {e : Entry} {N m0 : Nat} {C : Nat → Prop} {f : Nat → AV} {h : FHeap} {I : Nat → Prop} {ρ : PMap} {a : Act} {w : World}
theorem DNow.opvf (d : DNow E e N m0 C f h I ρ a w) (x : Operand) : VRel I w ρ (opvf E f x) (a.eval x) := by
  cases x with
  | tmp t => exact d.frm t
  | const v => exact constV_ok v
  | global g =>
    simp only [Ax.opvf, Act.eval]
    cases hg : E.G g with
    | none => simp [VRel]
    | some cs =>
      obtain ⟨h1, h2⟩ := d.rel.glob g cs hg
      simp only [VRel]
      exact ⟨g, 0, rfl, h1, h2⟩
  | func f => simp only [Ax.opvf, Act.eval, VRel]; exact ⟨#[], #[], rfl, by simp [VRels], by simp [VRels]⟩
theorem mem_tmpsOf {t : Nat} {l : List Operand} (h : Operand.tmp t ∈ l) : t ∈ tmpsOf l := by
  simp only [tmpsOf, List.mem_filterMap]
  exact ⟨_, h, rfl⟩
theorem opv_agree {F : Frm} {l : List Operand} (hf : ∀ s ∈ tmpsOf l, f s = getF F s) : ∀ x ∈ l, opv E F x = opvf E f x := by
  intro x hx
  cases x with
  | tmp t => exact (hf t (mem_tmpsOf hx)).symm
  | _ => rfl

/-- A slot's new value. -/
theorem put_frm {I' : Nat → Prop} {w' : World} {ρ' : PMap} (hv : ∀ (v : AV) (c : Value), VRel I w ρ v c → VRel I' w' ρ' v c) (hsz : a.tmps.size = N) (hf : ∀ s, VRel I w ρ (f s) (a.tmps.getD s undef)) {d : Option Nat}
    (hd : dstOk N d = true) {v : AV} {c : Value} (hc : VRel I' w' ρ' v c) : ∀ s, VRel I' w' ρ' ((if d = some s then some v else none).getD (f s)) ((a.put d c).tmps.getD s undef) := by
  intro s
  cases d with
  | none => simpa [Act.put] using hv _ _ (hf s)
  | some d =>
    have hlt : d < N := by simpa [dstOk, Nat.blt_eq] using hd
    simp only [Act.put, Array.getD_eq_getD_getElem?, Array.getElem?_setIfInBounds, hsz, Option.some.injEq]
    split
    · subst s; simpa [hlt] using hc
    · have := hv _ _ (hf s); simpa [Array.getD_eq_getD_getElem?] using this
theorem put_size {d : Option Nat} {c : Value} : (a.put d c).tmps.size = a.tmps.size := by cases d <;> simp [Act.put]
theorem put_defers {d : Option Nat} {c : Value} : (a.put d c).defers = a.defers := by cases d <;> rfl

def ovOf (n : Nat) : Eff → Nat → Option (Option AObj)
  | .none, _ => none
  | .new o, b => if b = n then some (some o) else none
  | .set b0 o, b => if b = b0 then some (some o) else none
  | .kill b0 o, b => if b = n then some (some o) else if b = b0 then some none else none
theorem eff_ov (h : FHeap) (n : Nat) (e : Eff) : h.eff n e = fun b => (ovOf n e b).getD (h b) := by
  funext b
  cases e <;> simp only [FHeap.eff, FHeap.set, ovOf]
  · rfl
  · split <;> rfl
  · split <;> rfl
  · split
    · rfl
    · split <;> rfl
theorem effH_ov {H : Heap} {e : Eff} (hf : e.fits H.length = true) : HeapF (effH H e) = fun b => (ovOf H.length e b).getD (HeapF H b) := by
  funext b
  cases e with
  | none => rfl
  | new o =>
    simp only [effH, HeapF, ovOf]
    split
    · subst b; simp
    · rcases Nat.lt_or_ge b H.length with h1 | h1
      · rw [List.getElem?_append_left h1]; rfl
      · rw [List.getElem?_eq_none (by simp; omega), List.getElem?_eq_none (by omega)]; rfl
  | set b1 o =>
    have hb1 : b1 < H.length := by simpa [Eff.fits, Nat.blt_eq] using hf
    simp only [effH, HeapF, ovOf, List.getElem?_set]
    split
    · subst b; simp [hb1]
    · rename_i hne; rw [if_neg (fun e => hne e.symm)]; rfl
  | kill b1 o =>
    have hb1 : b1 < H.length := by simpa [Eff.fits, Nat.blt_eq] using hf
    simp only [effH, HeapF, ovOf]
    split
    · subst b; rw [List.getElem?_append_right (by simp)]; simp
    · rcases Nat.lt_or_ge b H.length with h1 | h1
      · rw [List.getElem?_append_left (by simpa using h1), List.getElem?_set]
        split
        · rename_i hne; subst hne; simp [hb1]
        · rename_i hne hne2; rw [if_neg (fun e => hne2 e.symm)]; rfl
      · rw [List.getElem?_eq_none (by simp; omega), if_neg (by omega), List.getElem?_eq_none h1]; rfl
theorem ovOf_keys {n b : Nat} {e : Eff} (h : (ovOf n e b).isSome = true) : b ∈ e.keys n := by
  cases e <;> simp only [ovOf] at h
  · simp at h
  · split at h
    · subst b; simp [Eff.keys]
    · simp at h
  · split at h
    · subst b; simp [Eff.keys]
    · simp at h
  · split at h
    · subst b; simp [Eff.keys]
    · split at h
      · subst b; simp [Eff.keys]
      · simp at h
end
end Go.Ax

/- AxDraw2: one operation of a region that draws its order. -/
namespace Go.Ax
section
variable {E : Env} {e : Entry} {N m0 : Nat}

theorem smallF_congr {hp hp' : FHeap} {σ : List Nat} (h : ∀ b ∈ σ, hp b = hp' b) : smallF hp σ = smallF hp' σ := by
  unfold smallF
  exact List.map_congr_left fun b hb => by rw [h b hb]

/-- What an operation does in whatever state agrees with the run in text order. -/
def StepGood (E : Env) (e : Entry) (N m0 n : Nat) (o : Oper) (fp : Nat → AV) (hp : FHeap) (v : AV) (ov : Nat → Option (Option AObj)) (fresh : Bool) (l : LogE) : Prop :=
  ∀ {C : Nat → Prop} {f : Nat → AV} {h : FHeap} {I : Nat → Prop} {ρ : PMap} {a : Act} {w : World}, DNow E e N m0 C f h I ρ a w → (∀ s ∈ tmpsOf o.op.operands.toList, f s = fp s) → (∀ b ∈ l.needs, h b = hp b) → (fresh = true → ¬ C n) →
    ∀ {K : Act → World → Prop} {Q : Exit → Act → World → Prop}, (∀ I' ρ' a' w', DNow E e N m0 (fun b => C b ∨ (fresh = true ∧ b = n)) (fun s => ((if o.dst = some s then some v else none).getD (f s))) (fun b => (ov b).getD (h b)) I' ρ' a' w' → K a' w') →
      o.wp E.P a w K Q

theorem aop_good (ok : EnvOk E) {F : Frm} {H : Heap} {o : Oper} {v : AV} {eff : Eff} (hlow : e.m ≤ m0) (hn0 : m0 ≤ H.length) (hd : dstOk N o.dst = true) (ha : aop E H.length (HeapF H) o.op (opv E F) = some (v, eff)) :
    StepGood E e N m0 H.length o (getF F) (HeapF H) v (ovOf H.length eff) eff.fresh ⟨aneeds o.op (opv E F), eff.keys H.length⟩ := by
  intro C f h I ρ a w hnow hf hh hC K Q hK
  have hops := opv_agree (E := E) hf
  have hops' : ∀ x ∈ o.op.operands, opv E F x = opvf E f x := fun x hx => hops x (by simpa using hx)
  have ha1 : aop E H.length h o.op (opvf E f) = some (v, eff) := by
    rw [← aop_congr hops', aop_local (h' := HeapF H) hh]; exact ha
  obtain ⟨M, hM⟩ := hnow.fin
  obtain ⟨n', hn1, hρ', ha2⟩ : ∃ n', (eff.fresh = true → n' = H.length) ∧ ρ n' = none ∧ aop E n' h o.op (opvf E f) = some (v, eff) := by
    cases hfr : eff.fresh with
    | true => exact ⟨H.length, fun _ => rfl, hnow.nrel _ hn0 (hC hfr), ha1⟩
    | false => exact ⟨M, (by simp), hM _ (Nat.le_refl _), aop_still ha1 hfr⟩
  have hnone : h n' = none := by
    cases hx : h n' with
    | none => rfl
    | some ob =>
      obtain ⟨m, h1, _⟩ := hnow.rel.live _ _ hx
      rw [hρ'] at h1; cases h1
  obtain ⟨x, w', c, ρ', hrun, hx, step, hv, hm⟩ := aop_ok ok hnow.rel hnone hρ' ha2 hnow.opvf
  have hov : h.eff n' eff = fun b => (ovOf H.length eff b).getD (h b) := by
    rw [eff_ov]
    cases hfr : eff.fresh with
    | true => rw [hn1 hfr]
    | false => cases eff <;> simp [Eff.fresh] at hfr <;> rfl
  have hmoves : ∀ b, (eff.fresh = true → b ≠ H.length) → ρ' b = ρ b := by
    intro b hb
    cases hfr : eff.fresh with
    | true => exact hm.1 b (by rw [hn1 hfr]; exact hb hfr)
    | false => rw [hm.2 hfr]
  have hnew : DNow E e N m0 (fun b => C b ∨ (eff.fresh = true ∧ b = H.length)) (fun s => ((if o.dst = some s then some v else none).getD (f s))) (fun b => (ovOf H.length eff b).getD (h b)) I ρ' (a.put o.dst c) w' := by
    refine ⟨hnow.imm, fun b hb => ?_, hnow.ext.trans hnow.imm step.ext, hov ▸ step.rel, fun b hb hc => ?_, ⟨max M (H.length + 1), fun b hb => ?_⟩, by rw [put_size]; exact hnow.size, ?_, by rw [put_defers]; exact hnow.defers⟩
    · rw [hmoves b (fun _ => by omega)]; exact hnow.map b hb
    · rw [hmoves b (fun hf he => hc (.inr ⟨hf, he⟩))]; exact hnow.nrel b hb (fun h => hc (.inl h))
    · rw [hmoves b (fun _ => by omega)]; exact hM b (by omega)
    · exact put_frm (fun v c hv => step.vrel hv) hnow.size hnow.frm hd hv
  unfold Oper.wp
  rw [hrun]
  rcases hx with rfl | ⟨rfl, rfl⟩
  · rw [Oper.upon_value]; exact hK I ρ' _ _ hnew
  · rw [Oper.upon_skip]; exact hK I ρ' _ _ hnew

theorem call_good {g : FuncId} {run : List AV → Heap → Option (AV × Heap)} (hrun : FunOk E g run) {args : List AV} {H H' : Heap} {v : AV} {σ : List Nat}
    (hcall : callLoc run args H = some (v, H', σ)) (hlen : H'.length = H.length) :
    ∃ ov : Nat → Option (Option AObj), (HeapF H' = fun b => (ov b).getD (HeapF H b)) ∧ (∀ b, (ov b).isSome = true → b ∈ σ) ∧
      ∀ {I K : Nat → Prop} {ρ : PMap} {h : FHeap} {w : World} {cargs : List Value}, HRel E.G I K ρ h w → (∀ b ∈ σ, h b = HeapF H b) → VRels I w ρ args cargs →
        Calls E.P g cargs.toArray w fun en w' => ∃ c I', en = .returned c ∧ (∀ c, I c → I' c) ∧ Ext I K w w' ∧ HRel E.G I' K ρ (fun b => (ov b).getD (h b)) w' ∧ VRel I' w' ρ v c := by
  unfold callLoc at hcall
  simp only at hcall
  generalize hσ : reach H reachFuel (refsL args) [] = σ' at hcall
  rw [cond_eq_ite] at hcall
  split at hcall
  case isFalse => cases hcall
  rename_i hc
  simp only [Bool.and_eq_true, List.all_eq_true, Nat.blt_eq] at hc
  obtain ⟨hnd, hlt⟩ := hc
  have hnd := nodup_of hnd
  split at hcall
  case h_2 => cases hcall
  rename_i v1 H1 hr
  simp only [Option.some.injEq, Prod.mk.injEq] at hcall
  obtain ⟨rfl, rfl, rfl⟩ := hcall
  have hr' : run (args.map (ren (piOf σ'))) (smallF (HeapF H) σ') = some (v1, H1) := hr
  have hH1 : H1.length ≤ σ'.length := by
    simp only [List.length_append, putBack_length, List.length_map, List.length_drop] at hlen; omega
  refine ⟨fun b => (σ'.idxOf? b).map fun j => (HeapF H1 j).map (renObj (backOf σ' H.length)), ?_, ?_, ?_⟩
  · funext b
    simp only [HeapF]
    rcases Nat.lt_or_ge b H.length with hb | hb
    · rw [List.getElem?_append_left (by rw [putBack_length]; exact hb), putBack_get]
      simp only [Nat.zero_add]
      rw [List.getElem?_eq_getElem hb]
      cases hx : σ'.idxOf? b <;> simp [HeapF]
    · rw [List.getElem?_eq_none (by simp only [List.length_append, putBack_length, List.length_map, List.length_drop]; omega), List.getElem?_eq_none hb]
      cases hx : σ'.idxOf? b with
      | none => rfl
      | some j =>
        have := hlt b (List.mem_of_getElem? (idxOf_get hx))
        omega
  · intro b hb
    dsimp only at hb
    cases hx : σ'.idxOf? b with
    | none => rw [hx] at hb; simp at hb
    | some j => exact List.mem_of_getElem? (idxOf_get hx)
  · intro I K ρ h w cargs rel hh ha
    have hr2 : run (args.map (ren (piOf σ'))) (smallF h σ') = some (v1, H1) := by rw [smallF_congr hh]; exact hr'
    refine (callCore hrun hr2 rel hnd ha).mono ?_
    rintro en w' ⟨c, I1, ρ1, rfl, hret, hv⟩
    have hback : ∀ j b m, backOf σ' H.length j = some b → ρ1 j = some m → ρ b = some m := by
      intro j b m hj hm
      rcases Nat.lt_or_ge j σ'.length with hjl | hjl
      · simp only [backOf] at hj
        rw [cond_eq_ite, if_pos (by simpa [Nat.blt_eq] using hjl)] at hj
        have := hret.map j hjl
        rw [hm, hj] at this
        exact this.symm
      · rw [hret.nrel j (by omega)] at hm; cases hm
    refine ⟨c, I1, rfl, hret.imm, hret.ext.keepLess (fun c hc => .inl hc), ?_, VRel.ren hback v1 hv⟩
    refine back_rel rel hnd hret (fun _ _ h => h) hback (fun b m hb => .inl hb) ?_
    intro b o hb
    dsimp only at hb
    cases hx : σ'.idxOf? b with
    | none => rw [hx] at hb; exact .inl ⟨idxOf_none hx, hb⟩
    | some j =>
      rw [hx] at hb
      simp only [Option.map_some, Option.getD_some] at hb
      obtain ⟨o1, ho1, rfl⟩ := map_some_inv hb
      have hσj := idxOf_get hx
      refine .inr ⟨j, o1, ?_, ho1, rfl⟩
      simp only [backOf]
      rw [cond_eq_ite, if_pos (by simpa [Nat.blt_eq] using (List.getElem?_eq_some_iff.1 hσj).1)]
      exact hσj

/-- One operation. -/
theorem step_good (ok : EnvOk E) {call : FuncId → List AV → Heap → Option (AV × Heap)} (hcall : CallsOk E call) {F : Frm} {H H' : Heap} {o : Oper} {v : AV} {l : LogE} (hlow : e.m ≤ m0) (hn0 : m0 ≤ H.length)
    (hs : stepOp E true call F H o.op = some (v, H', l)) (hd : dstOk N o.dst = true) :
    ∃ ov fresh, (HeapF H' = fun b => (ov b).getD (HeapF H b)) ∧ H'.length = (bif fresh then H.length + 1 else H.length) ∧ (∀ b, (ov b).isSome = true → b ∈ l.keys) ∧ StepGood E e N m0 H.length o (getF F) (HeapF H) v ov fresh l := by
  unfold stepOp at hs
  split at hs
  · rename_i f args ats hop
    split at hs
    case h_2 => cases hs
    rename_i v' H1 σ hcv
    cases hs
    unfold callV at hcv
    split at hcv
    case h_2 => cases hcv
    rename_i g fs cs hfv
    -- the operands in another state
    have agree : ∀ {C : Nat → Prop} {f' : Nat → AV} {h : FHeap} {I : Nat → Prop} {ρ : PMap} {a : Act} {w : World}, DNow E e N m0 C f' h I ρ a w → (∀ s ∈ tmpsOf o.op.operands.toList, f' s = getF F s) →
        ∃ fs' cs', a.eval f = .func (.func g) fs' cs' ∧ VRels I w ρ (fs ++ args.toList.map (opv E F) ++ cs) (fs' ++ args.map a.eval ++ cs').toList := by
      intro C f' h I ρ a w hnow hf
      have hops := opv_agree (E := E) hf
      rw [hop] at hops
      have hf1 := hnow.opvf f
      rw [← hops f (by simp [Op.operands, Call.operands]), hfv] at hf1
      simp only [VRel] at hf1
      obtain ⟨fs', cs', hfe, hfs, hcs⟩ := hf1
      have hargs : args.toList.map (opv E F) = args.toList.map (opvf E f') := List.map_congr_left fun x hx => hops x (by simp [Op.operands, Call.operands]; exact .inr (by simpa using hx))
      refine ⟨fs', cs', hfe, ?_⟩
      simp only [Array.toList_append, Array.toList_map]
      rw [hargs]
      exact VRels.append (VRels.append hfs (vrels_map hnow.opvf args.toList)) hcs
    rw [cond_eq_ite] at hcv
    split at hcv
    · rename_i hext
      split at hcv
      case h_2 => cases hcv
      rename_i v'' hv''
      cases hcv
      refine ⟨fun _ => none, false, rfl, rfl, by simp, ?_⟩
      intro C f' h I ρ a w hnow hf hh hC K Q hK
      obtain ⟨fs', cs', hfe, hargs⟩ := agree hnow hf
      obtain ⟨c, hrun, hvc⟩ := callFunc_ext (E := E) (w := w) ok hext hv'' hargs
      have harr : (fs' ++ args.map a.eval ++ cs').toList.toArray = fs' ++ args.map a.eval ++ cs' := by apply Array.ext'; simp
      rw [harr] at hrun
      unfold Oper.wp
      rw [exec_call hop hfe, hrun, Oper.upon_value]
      refine hK I ρ _ _ ⟨hnow.imm, hnow.map, hnow.ext, hnow.rel, fun b hb hc => hnow.nrel b hb (fun h => hc (.inl h)), hnow.fin, by rw [put_size]; exact hnow.size, ?_, by rw [put_defers]; exact hnow.defers⟩
      exact put_frm (fun _ _ h => h) hnow.size hnow.frm hd hvc
    · rw [cond_eq_ite] at hcv
      split at hcv
      case isFalse => cases hcv
      rename_i hg
      split at hcv
      case h_2 => cases hcv
      rename_i v'' H2 σ2 hloc
      rw [cond_eq_ite] at hcv
      split at hcv
      case isTrue => cases hcv
      rename_i hlen
      cases hcv
      have hlen : H'.length = H.length := by simpa using hlen
      obtain ⟨ov, h1, h2, h3⟩ := call_good (hcall g) hloc hlen
      refine ⟨ov, false, h1, hlen, h2, ?_⟩
      intro C f' h I ρ a w hnow hf hh hC K Q hK
      obtain ⟨fs', cs', hfe, hargs⟩ := agree hnow hf
      unfold Oper.wp
      rw [exec_call hop hfe, callFunc_enter ok hg, Oper.upon_enter]
      have hc := h3 hnow.rel hh hargs
      have harr : (fs' ++ args.map a.eval ++ cs').toList.toArray = fs' ++ args.map a.eval ++ cs' := by apply Array.ext'; simp
      rw [harr] at hc
      refine hc.mono ?_
      rintro en w' ⟨c, I', rfl, hI, hext, hrel, hvc⟩
      refine hK I' ρ _ _ ⟨fun c hc => hI c (hnow.imm c hc), hnow.map, hnow.ext.trans hnow.imm hext, hrel, fun b hb hc => hnow.nrel b hb (fun h => hc (.inl h)), hnow.fin, by rw [put_size]; exact hnow.size, ?_, by rw [put_defers]; exact hnow.defers⟩
      exact put_frm (fun v c hv => VRel.mono hI (fun c hc => hext.keep c (.inl hc)) v (fun _ _ h => h) hv) hnow.size hnow.frm hd hvc
  · split at hs
    case h_2 => cases hs
    rename_i v' eff ha
    rw [cond_eq_ite] at hs
    split at hs
    case isFalse => cases hs
    rename_i hfit
    cases hs
    refine ⟨ovOf H.length eff, eff.fresh, effH_ov hfit, ?_, fun b hb => ovOf_keys hb, aop_good ok hlow hn0 hd ha⟩
    rw [effH_length, cond_eq_ite]
end
end Go.Ax

/- AxDraw3: the whole of a region that draws its order. -/
namespace Go.Ax
section
variable {E : Env} {e : Entry} {N m0 : Nat} {ops : Array Oper} {Q : Exit → Act → World → Prop} {f0 : Nat → AV} {h0 : FHeap}

/-- A record of an operation, as good as the operation in every state that agrees with its own. -/
structure RecOk (E : Env) (e : Entry) (N m0 : Nat) (ops : Array Oper) (Q : Exit → Act → World → Prop) (f0 : Nat → AV) (h0 : FHeap) (p : List Rec) (i : Nat) (r : Rec) : Prop where
  dst : ∀ o, ops[i]? = some o → r.dst = o.dst
  keys : ∀ b, (r.ov b).isSome = true → b ∈ r.log.keys
  good : ∀ {C : Nat → Prop} {f : Nat → AV} {h : FHeap} {I : Nat → Prop} {ρ : PMap} {a : Act} {w : World}, DNow E e N m0 C f h I ρ a w → (∀ o, ops[i]? = some o → ∀ s ∈ looks ops.toList o, f s = gL fov f0 every p s) →
    (∀ b ∈ r.log.needs, h b = gL hov h0 every p b) → (r.fresh = true → ¬ C (cnt m0 p)) →
    ∀ {K : Act → World → Prop}, (∀ I' ρ' a' w', DNow E e N m0 (fun b => C b ∨ (r.fresh = true ∧ b = cnt m0 p)) (fun s => (fov r s).getD (f s)) (fun b => (hov r b).getD (h b)) I' ρ' a' w' → K a' w') → wpOp E.P ops Q i K a w
def RecsOk (E : Env) (e : Entry) (N m0 : Nat) (ops : Array Oper) (Q : Exit → Act → World → Prop) (f0 : Nat → AV) (h0 : FHeap) (recs : List Rec) : Prop :=
  ∀ i r, nth recs i = some r → RecOk E e N m0 ops Q f0 h0 (pre recs i) i r
theorem RecsOk.cons {recs : List Rec} {r : Rec} (h : RecsOk E e N m0 ops Q f0 h0 recs) (hr : RecOk E e N m0 ops Q f0 h0 recs recs.length r) : RecsOk E e N m0 ops Q f0 h0 (r :: recs) := by
  intro i r' hi
  unfold nth at hi
  simp only [pre]
  split at hi
  · rename_i he; cases hi; rw [if_pos he, he]; exact hr
  · rename_i he; rw [if_neg he]; exact h i r' hi
theorem cnt_ge : ∀ {l : List Rec}, m0 ≤ cnt m0 l
  | [] => Nat.le_refl _
  | r :: rest => by have := cnt_ge (l := rest); simp only [cnt, cond_eq_ite]; split <;> omega

theorem yield_of {I : Nat → Prop} {w : World} {ρ : PMap} {a : Act} {v : AV} {j d : Nat} (hg : guardSlot ops.toList j = some d) (hv : VRel I w ρ v (a.tmps.getD d undef)) :
    (∀ b, v = .bool b → yielded ops a.tmps j = some b) ∧ (v = .tuple [] → yielded ops a.tmps j = none) := by
  have hd : (ops[j]?).bind (·.dst) = some d := by simpa [guardSlot] using hg
  have hget : ∀ c, a.tmps.getD d undef = c → c ≠ undef → a.tmps[d]? = some c := by
    intro c hc hne
    rw [Array.getD_eq_getD_getElem?] at hc
    cases hx : a.tmps[d]? with
    | none => rw [hx] at hc; exact absurd hc.symm hne
    | some x => rw [hx] at hc; simpa using hc
  refine ⟨fun b hb => ?_, fun hb => ?_⟩
  · rw [hb] at hv
    simp only [VRel] at hv
    have := hget _ hv (by simp [undef])
    simp [yielded, hd, this]
  · rw [hb] at hv
    simp only [VRel] at hv
    obtain ⟨cs, hc, hcs⟩ := hv
    unfold yielded
    rw [hd]
    simp only [Option.bind_some]
    rw [Array.getD_eq_getD_getElem?] at hc
    cases hx : a.tmps[d]? with
    | none => rfl
    | some x =>
      rw [hx] at hc
      simp only [Option.getD_some] at hc
      rw [hc]

theorem looks_ops {o : Oper} {s : Nat} (h : s ∈ tmpsOf o.op.operands.toList) : s ∈ looks ops.toList o := List.mem_append_left _ h
theorem looks_guard {o : Oper} {j d : Nat} {want : Bool} (hg : o.guard = some (j, want)) (hs : guardSlot ops.toList j = some d) : d ∈ looks ops.toList o := by
  simp [looks, hg, hs]

/-- The run in text order, taken down. -/
theorem runOps_recs (ok : EnvOk E) {call : FuncId → List AV → Heap → Option (AV × Heap)} (hcall : CallsOk E call) (hlow : e.m ≤ m0) {R : Type} {k : Frm → Heap → Option R} {r : R} :
    ∀ (rest : List Oper) (recs : List Rec) (F : Frm) (H : Heap), rest = ops.toList.drop recs.length → recs.length + rest.length = ops.size → getF F = gL fov f0 every recs → HeapF H = gL hov h0 every recs → H.length = cnt m0 recs →
      RecsOk E e N m0 ops Q f0 h0 recs → runOps E true N call ops.toList rest (recs.map (·.log)) F H k = some r →
      ∃ recs' F' H', recs'.length = ops.size ∧ getF F' = gL fov f0 every recs' ∧ HeapF H' = gL hov h0 every recs' ∧ H'.length = cnt m0 recs' ∧ RecsOk E e N m0 ops Q f0 h0 recs' ∧
        logOk ops.toList (recs'.map (·.log)).length (recs'.map (·.log)) = true ∧ k F' H' = some r
  | [], recs, F, H, _, hlen, hF, hH, hn, hrecs, hrun => by
    simp only [runOps, Bool.not_true, Bool.false_or] at hrun
    rw [cond_eq_ite] at hrun
    split at hrun
    case isFalse => cases hrun
    rename_i hlog
    exact ⟨recs, F, H, by simpa using hlen, hF, hH, hn, hrecs, hlog, hrun⟩
  | o :: rest, recs, F, H, hrest, hlen, hF, hH, hn, hrecs, hrun => by
    have ho : ops[recs.length]? = some o := by
      have : (ops.toList.drop recs.length)[0]? = some o := by rw [← hrest]; rfl
      rw [List.getElem?_drop] at this
      simpa using this
    have hrest' : rest = ops.toList.drop (recs.length + 1) := by
      have : (ops.toList.drop recs.length).drop 1 = rest := by rw [← hrest]; rfl
      rw [List.drop_drop] at this
      exact this.symm
    unfold runOps at hrun
    rw [cond_eq_ite] at hrun
    split at hrun
    case isFalse => cases hrun
    rename_i hd
    simp only [List.length_cons] at hlen
    -- a step that is executed, and one that is not
    have exec : ∀ F0, getF F0 = getF F → (match stepOp E true call F0 H o.op with
        | some (v, H', l) => runOps E true N call ops.toList rest (l :: recs.map (·.log)) (setF F0 o.dst v) H' k
        | none => none) = some r →
        (∀ {I : Nat → Prop} {w : World} {ρ : PMap} {a : Act} {f : Nat → AV}, (∀ s ∈ looks ops.toList o, f s = gL fov f0 every recs s) → (∀ s, VRel I w ρ (f s) (a.tmps.getD s undef)) → Region.wanted o (yielded ops a.tmps) = true) →
        ∃ recs' F' H', recs'.length = ops.size ∧ getF F' = gL fov f0 every recs' ∧ HeapF H' = gL hov h0 every recs' ∧ H'.length = cnt m0 recs' ∧ RecsOk E e N m0 ops Q f0 h0 recs' ∧
          logOk ops.toList (recs'.map (·.log)).length (recs'.map (·.log)) = true ∧ k F' H' = some r := by
      intro F0 hF0 hr hw
      split at hr
      case h_2 => cases hr
      rename_i v H' l hs
      obtain ⟨ov, fresh, h1, h2, h3, h4⟩ := step_good (e := e) (N := N) (m0 := m0) ok hcall hlow (by rw [hn]; exact cnt_ge) hs hd
      refine runOps_recs ok hcall hlow rest (⟨o.dst, v, ov, fresh, l⟩ :: recs) (setF F0 o.dst v) H' (by simpa using hrest') (by simp only [List.length_cons]; omega) ?_ ?_ ?_ (hrecs.cons ?_) hr
      · simp only [gL, every, if_true]
        rw [← hF, ← hF0]
        funext s
        cases hdst : o.dst with
        | none => simp [setF, fov]
        | some d => rw [getF_setF]; simp only [fov, Option.some.injEq]; split <;> rfl
      · simp only [gL, every, if_true]
        rw [← hH]; exact h1
      · simp only [cnt]; rw [← hn]; exact h2
      · refine ⟨fun o' ho' => by rw [ho] at ho'; cases ho'; rfl, h3, ?_⟩
        intro C f h I ρ a w hnow hf hh hC K hK
        have hf := hf o ho
        unfold wpOp
        simp only [ho]
        rw [if_pos (hw hf hnow.frm)]
        refine .inl (h4 hnow (fun s hs => by rw [hf s (looks_ops hs), hF0, hF]) (fun b hb => by rw [hh b hb, hH]) (by rw [hn]; exact hC) ?_)
        rw [hn]
        exact hK
    have skip : ∀ F0, getF F0 = getF F → runOps E true N call ops.toList rest (⟨[], []⟩ :: recs.map (·.log)) (setF F0 o.dst (.tuple [])) H k = some r →
        (∀ {I : Nat → Prop} {w : World} {ρ : PMap} {a : Act} {f : Nat → AV}, (∀ s ∈ looks ops.toList o, f s = gL fov f0 every recs s) → (∀ s, VRel I w ρ (f s) (a.tmps.getD s undef)) → Region.wanted o (yielded ops a.tmps) = false) →
        ∃ recs' F' H', recs'.length = ops.size ∧ getF F' = gL fov f0 every recs' ∧ HeapF H' = gL hov h0 every recs' ∧ H'.length = cnt m0 recs' ∧ RecsOk E e N m0 ops Q f0 h0 recs' ∧
          logOk ops.toList (recs'.map (·.log)).length (recs'.map (·.log)) = true ∧ k F' H' = some r := by
      intro F0 hF0 hr hw
      refine runOps_recs ok hcall hlow rest (⟨o.dst, .tuple [], fun _ => none, false, ⟨[], []⟩⟩ :: recs) (setF F0 o.dst (.tuple [])) H (by simpa using hrest') (by simp only [List.length_cons]; omega) ?_ ?_ ?_ (hrecs.cons ?_) hr
      · simp only [gL, every, if_true]
        rw [← hF, ← hF0]
        funext s
        cases hdst : o.dst with
        | none => simp [setF, fov]
        | some d => rw [getF_setF]; simp only [fov, Option.some.injEq]; split <;> rfl
      · simp only [gL, every, if_true]
        rw [← hH]; rfl
      · simp only [cnt]; exact hn
      · refine ⟨fun o' ho' => by rw [ho] at ho'; cases ho'; rfl, by simp, ?_⟩
        intro C f h I ρ a w hnow hf hh hC K hK
        have hf := hf o ho
        unfold wpOp
        simp only [ho]
        rw [if_neg (by rw [hw hf hnow.frm]; simp)]
        refine hK I ρ _ _ ⟨hnow.imm, hnow.map, hnow.ext, hnow.rel, fun b hb hc => hnow.nrel b hb (fun h => hc (.inl h)), hnow.fin, by rw [put_size]; exact hnow.size, ?_, by rw [put_defers]; exact hnow.defers⟩
        exact put_frm (fun _ _ h => h) hnow.size hnow.frm hd (by simp only [VRel, undef]; exact ⟨#[], rfl, by simp [VRels]⟩)
    split at hrun
    · rename_i hg
      exact exec F rfl hrun (fun _ _ => by simp [Region.wanted, hg])
    · rename_i j want hg
      split at hrun
      case h_1 => cases hrun
      rename_i d hgs
      have hdl := looks_guard (o := o) hg hgs
      split at hrun
      · rename_i b hb
        have hw : ∀ {I : Nat → Prop} {w : World} {ρ : PMap} {a : Act} {f : Nat → AV}, (∀ s ∈ looks ops.toList o, f s = gL fov f0 every recs s) → (∀ s, VRel I w ρ (f s) (a.tmps.getD s undef)) → Region.wanted o (yielded ops a.tmps) = (b == want) := by
          intro I w ρ a f hf hv
          have hfd : f d = .bool b := by rw [hf d hdl, ← hF, hb]
          have := (yield_of hgs (hv d)).1 b hfd
          simp [Region.wanted, hg, this]
        have hset : getF (setF F (some d) (.bool b)) = getF F := by
          funext s
          rw [getF_setF]
          split
          · rename_i hs; rw [← hs, hb]
          · rfl
        cases b
        · simp only [cond_false] at hrun
          cases want
          · simp only [cond_false] at hrun
            exact exec _ hset hrun (fun hf hv => by rw [hw hf hv]; rfl)
          · simp only [cond_true] at hrun
            exact skip _ hset hrun (fun hf hv => by rw [hw hf hv]; rfl)
        · simp only [cond_true] at hrun
          cases want
          · simp only [cond_false] at hrun
            exact skip _ hset hrun (fun hf hv => by rw [hw hf hv]; rfl)
          · simp only [cond_true] at hrun
            exact exec _ hset hrun (fun hf hv => by rw [hw hf hv]; rfl)
      · rename_i hb
        refine skip F rfl hrun (fun {I w ρ a f} hf hv => ?_)
        have hfd : f d = .tuple [] := by rw [hf d hdl, ← hF, hb]
        have := (yield_of hgs (hv d)).2 hfd
        simp [Region.wanted, hg, this]
      · cases hrun

theorem nth_map_log {recs : List Rec} : ∀ {i : Nat} {r : Rec}, nth recs i = some r → nth (recs.map (·.log)) i = some r.log := by
  induction recs with
  | nil => intro i r h; simp [nth] at h
  | cons a rest ih =>
    intro i r h
    unfold nth at h
    simp only [List.map_cons, nth, List.length_map]
    split at h
    · rename_i hi; cases h; rw [if_pos hi]
    · rename_i hi; rw [if_neg hi]; exact ih h

theorem meetsB_of {a b : List Nat} {x : Nat} (h1 : x ∈ a) (h2 : x ∈ b) : meetsB a b = true := by
  simp only [meetsB, List.any_eq_true, containsN_iff]
  exact ⟨x, h1, h2⟩

theorem DNow.weaken {C C' : Nat → Prop} {f : Nat → AV} {h : FHeap} {I : Nat → Prop} {ρ : PMap} {a : Act} {w : World} (d : DNow E e N m0 C f h I ρ a w) (hC : ∀ b, C b → C' b) : DNow E e N m0 C' f h I ρ a w :=
  { d with nrel := fun b hb hc => d.nrel b hb (fun h => hc (hC b h)) }
theorem made_every {S : Nat → Bool} {b : Nat} : ∀ {l : List Rec}, made m0 S l b → made m0 every l b
  | [], h => h
  | _ :: _, h => h.imp (fun ⟨_, h2⟩ => ⟨rfl, h2⟩) made_every

/-- Every order. -/
theorem draw_any (hst : drawOk ops.toList = true) {recs : List Rec} (hlen : recs.length = ops.size) (hrecs : RecsOk E e N m0 ops Q f0 h0 recs) (hlog : logOk ops.toList (recs.map (·.log)).length (recs.map (·.log)) = true)
    (hQ : ∀ I ρ a w, DNow E e N m0 (made m0 every recs) (gL fov f0 every recs) (gL hov h0 every recs) I ρ a w → Q .normal a w) :
    ∀ (fuel : Nat) (listed : Array Bool) (I : Nat → Prop) (ρ : PMap) (a : Act) (w : World), listed.size = ops.size → ((List.range ops.size).filter fun i => !listed.getD i false).length ≤ fuel →
      (∀ j, listed.getD j false = true → SClosed ops.toList (fun i => listed.getD i false) j) →
      DNow E e N m0 (made m0 (fun i => listed.getD i false) recs) (gL fov f0 (fun i => listed.getD i false) recs) (gL hov h0 (fun i => listed.getD i false) recs) I ρ a w →
      wpAny E.P .any ops Q fuel listed a w := by
  have done : ∀ (listed : Array Bool) (I : Nat → Prop) (ρ : PMap) (a : Act) (w : World), (∀ i, i < ops.size → listed.getD i false = true) →
      DNow E e N m0 (made m0 (fun i => listed.getD i false) recs) (gL fov f0 (fun i => listed.getD i false) recs) (gL hov h0 (fun i => listed.getD i false) recs) I ρ a w → Q .normal a w := by
    intro listed I ρ a w hall hnow
    have hsame : ∀ j, j < recs.length → (fun i => listed.getD i false) j = every j := fun j hj => by rw [hlen] at hj; exact hall j hj
    rw [gL_same hsame, gL_same hsame] at hnow
    exact hQ I ρ a w (hnow.weaken fun b => made_every)
  intro fuel
  induction fuel with
  | zero =>
    intro listed I ρ a w hsz hcount hcl hnow
    have hall : ∀ i, i < ops.size → listed.getD i false = true := by
      intro i hi
      cases hx : listed.getD i false with
      | true => rfl
      | false =>
        have : i ∈ (List.range ops.size).filter fun i => !listed.getD i false := by
          rw [List.mem_filter, List.mem_range]; exact ⟨hi, by rw [hx]; rfl⟩
        have := List.length_pos_of_mem this
        omega
    have hready : Region.ready .any ops listed = [] := by
      cases hr : Region.ready .any ops listed with
      | nil => rfl
      | cons i rest =>
        have : i ∈ Region.ready .any ops listed := by rw [hr]; simp
        obtain ⟨h1, o, h2, _⟩ := mem_ready.1 this
        have hi := (Array.getElem?_eq_some_iff.1 h2).1
        have := hall i hi
        simp only [Array.getD_eq_getD_getElem?, Array.getElem?_eq_getElem (show i < listed.size by omega), Option.getD_some] at h1 this
        rw [this] at h1; cases h1
    exact ⟨hready, done listed I ρ a w hall hnow⟩
  | succ fuel ih =>
    intro listed I ρ a w hsz hcount hcl hnow
    refine ⟨fun hready => done listed I ρ a w ?_ hnow, fun i hi => ?_⟩
    · intro i
      induction i using Nat.strongRecOn with
      | _ i ihi =>
        intro hi
        cases hx : listed.getD i false with
        | true => rfl
        | false =>
          exfalso
          have hmem : i ∈ Region.ready .any ops listed := by
            refine mem_ready.2 ⟨?_, ops[i], by simp [hi], fun e he hb => ?_⟩
            · simpa only [Array.getD_eq_getD_getElem?, Array.getElem?_eq_getElem (show i < listed.size by omega), Option.getD_some] using hx
            · have := (drawOk_ok hst (j := i) (y := ops[i]) (by simp [hi])).1 e (by simpa using he) hb
              exact ihi e.on this (by omega)
          rw [hready] at hmem; cases hmem
    · obtain ⟨h1, o, ho, hedges⟩ := mem_ready.1 hi
      have hi' := (Array.getElem?_eq_some_iff.1 ho).1
      have hol : ops.toList[i]? = some o := by simpa using ho
      generalize hS : (fun i => listed.getD i false) = S at hcl hnow
      have hSi : S i = false := by
        rw [← hS]
        simp only [Array.getD_eq_getD_getElem?, Array.getElem?_eq_getElem (show i < listed.size by omega), Option.getD_some] at h1 ⊢
        exact h1
      have hcl' : ∀ j, S j = true → SClosed ops.toList S j := by intro j hj; rw [← hS] at hj; exact hcl j hj
      have hcli : SClosed ops.toList S i := by
        intro o' ho' e he hb
        rw [hol] at ho'; cases ho'
        rw [← hS]; exact hedges e (by simpa using he) hb
      obtain ⟨r, hr⟩ := nth_some (l := recs) (i := i) (by omega)
      have hro := hrecs i r hr
      have opAt : ∀ j r', nth recs j = some r' → ∃ o', ops.toList[j]? = some o' ∧ r'.dst = o'.dst := by
        intro j r' hj
        have hjl := nth_lt hj
        have : ops[j]? = some ops[j] := by simp
        exact ⟨ops[j], by simp, (hrecs j r' hj).dst _ this⟩
      have before : ∀ j, ordered ops.toList j i = true → S j = true := fun j h => ordered_in hcl' hcli h
      have after : ∀ j, ordered ops.toList i j = true → S j = false := by
        intro j h
        cases hx : S j with
        | false => rfl
        | true => rw [ordered_in hcl' (hcl' j hx) h] at hSi; cases hSi
      refine hro.good hnow ?_ ?_ ?_ ?_
      · intro o' ho' s hs
        rw [ho] at ho'; cases ho'
        refine gL_at hr fun j r' hj hd => ?_
        obtain ⟨oj, hoj, hdj⟩ := opAt j r' hj
        have hds : oj.dst = some s := by
          rw [← hdj]; unfold fov at hd; split at hd
          · assumption
          · simp at hd
        refine ⟨fun hji => before j ?_, fun hij => ?_⟩
        · refine (drawOk_ok hst hol).2 j oj hoj hji ?_
          simp only [slotsMeet, hds, Bool.or_eq_true, List.contains_iff_mem]
          exact .inl (.inl hs)
        · rcases Nat.lt_or_eq_of_le hij with hlt | rfl
          · refine after j ((drawOk_ok hst hoj).2 i o hol hlt ?_)
            simp only [slotsMeet, hds, Bool.or_eq_true, List.contains_iff_mem]
            exact .inl (.inr hs)
          · exact hSi
      · intro b hb
        refine gL_at hr fun j r' hj hd => ?_
        have hkey := (hrecs j r' hj).keys b hd
        refine ⟨fun hji => before j ?_, fun hij => ?_⟩
        · refine logOk_ok hlog j i _ _ hji (nth_map_log hj) (nth_map_log hr) ?_
          simp only [LogE.clash, meetsB_of hkey hb, Bool.true_or]
        · rcases Nat.lt_or_eq_of_le hij with hlt | rfl
          · refine after j (logOk_ok hlog i j _ _ hlt (nth_map_log hr) (nth_map_log hj) ?_)
            simp only [LogE.clash, meetsB_of hb hkey, Bool.or_true]
          · exact hSi
      · intro hf hm
        rw [made_at hr hf hm] at hSi; cases hSi
      · intro I' ρ' a' w' hnow'
        have hS' : (fun j => (listed.setIfInBounds i true).getD j false) = plus S i := by
          funext j
          rw [← hS]
          simp only [plus, Array.getD_eq_getD_getElem?, Array.getElem?_setIfInBounds]
          by_cases hij : i = j
          · subst hij; simp [show i < listed.size by omega]
          · rw [if_neg hij, beq_eq_false_iff_ne.2 (Ne.symm hij), Bool.false_or]
        refine ih _ I' ρ' a' w' (by simpa using hsz) ?_ ?_ ?_
        · have hfil : ((List.range ops.size).filter fun j => !(listed.setIfInBounds i true).getD j false) = ((List.range ops.size).filter fun j => !listed.getD j false).filter fun j => !(j == i) := by
            rw [List.filter_filter]
            refine List.filter_congr fun j _ => ?_
            have h1 := congrFun hS' j
            have h2 := congrFun hS j
            rw [h1, h2]
            simp [plus]
          rw [hfil]
          have : (((List.range ops.size).filter fun j => !listed.getD j false).filter fun j => !(j == i)).length < ((List.range ops.size).filter fun j => !listed.getD j false).length := by
            refine List.length_filter_lt_length_iff_exists.2 ⟨i, ?_, by simp⟩
            rw [List.mem_filter, List.mem_range]
            refine ⟨hi', ?_⟩
            have h2 := congrFun hS i
            rw [h2, hSi]; rfl
          omega
        · rw [hS']
          have hmono : ∀ j, SClosed ops.toList S j → SClosed ops.toList (plus S i) j := fun j h o ho e he hb => by simp [plus, h o ho e he hb]
          intro j hj
          have hj : plus S i j = true := by rw [← hS']; exact hj
          simp only [plus, Bool.or_eq_true, beq_iff_eq] at hj
          rcases hj with rfl | hj
          · exact hmono _ hcli
          · exact hmono _ (hcl' j hj)
        · rw [hS']
          rw [gL_add hr hSi ?_, gL_add hr hSi ?_]
          · exact hnow'.weaken fun b hb => made_plus hr hb
          · intro k r' hk hik hSk s hs
            cases hx : hov r' s with
            | none => rfl
            | some ob =>
              have h1 := hro.keys s hs
              have h2 := (hrecs k r' hk).keys s (by unfold hov at hx; rw [hx]; rfl)
              have := after k (logOk_ok hlog i k _ _ hik (nth_map_log hr) (nth_map_log hk) (by simp only [LogE.clash, meetsB_of h1 h2, Bool.or_true, Bool.true_or]))
              rw [hSk] at this; cases this
          · intro k r' hk hik hSk s hs
            cases hx : fov r' s with
            | none => rfl
            | some v =>
              obtain ⟨ok, hok, hdk⟩ := opAt k r' hk
              have h1 : o.dst = some s := by
                rw [← hro.dst o ho]; unfold fov at hs; split at hs
                · assumption
                · simp at hs
              have h2 : ok.dst = some s := by
                rw [← hdk]; unfold fov at hx; split at hx
                · assumption
                · cases hx
              have := after k ((drawOk_ok hst hok).2 i o hol hik (by simp [slotsMeet, h1, h2]))
              rw [hSk] at this; cases this

/-- A region that draws its order. -/
theorem runOps_draw (ok : EnvOk E) {call : FuncId → List AV → Heap → Option (AV × Heap)} (hcall : CallsOk E call) {R : Type} {k : Frm → Heap → Option R} {r : R} {F : Frm} {H : Heap} {I : Nat → Prop} {ρ : PMap} {a : Act} {w : World}
    (hst : drawOk ops.toList = true) (hQ : ∀ F H I ρ a w, Now E e N F H I ρ a w → k F H = some r → Q .normal a w) (hnow : Now E e N F H I ρ a w) (hrun : runOps E true N call ops.toList ops.toList [] F H k = some r) (id : Nat) :
    (Code.region id ops true).wp E.P Q a w := by
  refine wp_region_any ok.mixed ?_
  obtain ⟨recs, F', H', h1, h2, h3, h4, h5, h6, h7⟩ := runOps_recs (e := e) (N := N) (m0 := H.length) (Q := Q) (f0 := getF F) (h0 := HeapF H) ok hcall hnow.low ops.toList [] F H (by simp) (by simp) rfl rfl rfl (fun i r h => by simp [nth] at h) hrun
  have hfalse : ∀ i, (Array.replicate ops.size false).getD i false = false := by
    intro i
    simp only [Array.getD_eq_getD_getElem?, Array.getElem?_replicate]
    split <;> rfl
  have hnone : ∀ {V : Type} (o : Rec → Nat → Option V) (g0 : Nat → V) (l : List Rec), gL o g0 (fun i => (Array.replicate ops.size false).getD i false) l = g0 := by
    intro V o g0 l
    induction l with
    | nil => rfl
    | cons a rest ih => unfold gL; rw [if_neg (by rw [hfalse]; simp)]; exact ih
  refine draw_any hst h1 h5 h6 ?_ ops.size _ I ρ a _ (by simp) ?_ ?_ ?_
  · intro I' ρ' a' w' hd
    refine hQ F' H' I' ρ' a' w' ⟨hd.imm, hd.map, hd.ext, ?_, ?_, ⟨hd.size, fun s => by rw [h2]; exact hd.frm s⟩, ?_, hd.defers⟩ h7
    · rw [h3]; exact hd.rel
    · intro b hb
      have hge : H.length ≤ cnt H.length recs := cnt_ge
      refine hd.nrel b (by omega) (fun hm => ?_)
      have := made_lt hm
      omega
    · have hge : H.length ≤ cnt H.length recs := cnt_ge
      have := hnow.low
      omega
  · refine Nat.le_trans (List.length_filter_le _ _) (by simp)
  · intro j hj
    have := hfalse j
    rw [this] at hj; cases hj
  · have hdrew := hnow.drew
    rw [hnone, hnone]
    exact ⟨hdrew.imm, hdrew.map, hdrew.ext, hdrew.rel, fun b hb _ => hdrew.nrel b hb, ⟨_, hdrew.nrel⟩, hdrew.frm.1, hdrew.frm.2, hdrew.defers⟩
end
end Go.Ax

/- AxCode: statements. -/
namespace Go.Ax

/-- Every region that draws its order is fit for it. -/
def drawsOk : Code → Bool
  | .region _ ops draw => bif draw then drawOk ops.toList else true
  | .seq a b => drawsOk a && drawsOk b
  | .cond _ a b => drawsOk a && drawsOk b
  | .block _ b => drawsOk b
  | .loop b => drawsOk b
  | .scope b => drawsOk b
  | _ => true

def AExit.conv : AExit → Exit
  | .normal => .normal
  | .exit id => .exit id
  | .ret => .ret

section
variable {E : Env}
theorem code_ok (ok : EnvOk E) {call : FuncId → List AV → Heap → Option (AV × Heap)} (hcall : CallsOk E call) {e : Entry} {N lf : Nat} {keep : Nat → List Nat} {R : Type} : ∀ (c : Code), drawsOk c = true →
    ∀ {cur : Nat} {k : AExit → Frm → Heap → Option R} {r : R} {Q : Exit → Act → World → Prop}, (∀ x F H I ρ a w, Now E e N F H I ρ a w → k x F H = some r → Q x.conv a w) →
    ∀ {F : Frm} {H : Heap} {I : Nat → Prop} {ρ : PMap} {a : Act} {w : World}, Now E e N F H I ρ a w → aevC E e.m N keep call lf cur c F H k = some r → c.wp E.P Q a w := by
  intro c
  induction c with
  | skip => intro _ cur k r Q hQ F H I ρ a w hnow hrun; exact wp_skip (hQ .normal F H I ρ a w hnow hrun)
  | label l => intro _ cur k r Q hQ F H I ρ a w hnow hrun; exact wp_label (hQ .normal F H I ρ a w hnow hrun)
  | exit id => intro _ cur k r Q hQ F H I ρ a w hnow hrun; exact wp_exit (hQ (.exit id) F H I ρ a w hnow hrun)
  | ret => intro _ cur k r Q hQ F H I ρ a w hnow hrun; exact wp_ret (hQ .ret F H I ρ a w hnow hrun)
  | region id ops draw =>
    intro hst cur k r Q hQ F H I ρ a w hnow hrun
    have hQ' : ∀ F H I ρ a w, Now E e N F H I ρ a w → k .normal F H = some r → Q .normal a w := fun F H I ρ a w h hk => hQ .normal _ H I ρ a w h hk
    cases draw with
    | true => exact runOps_draw (ops := ops) ok hcall hst hQ' hnow hrun id
    | false =>
      refine wp_region ?_
      have := runOps_seq ok hcall (ops := ops) hQ' ops.toList 0 [] F H I ρ a w rfl hnow hrun
      rw [List.range_eq_range', ← Array.length_toList]; exact this
  | seq x y ihx ihy =>
    intro hst cur k r Q hQ F H I ρ a w hnow hrun
    simp only [drawsOk, Bool.and_eq_true] at hst
    refine wp_seq (ihx hst.1 ?_ hnow hrun)
    intro x F H I ρ a w hn hk
    cases x with
    | normal => exact ihy hst.2 hQ hn hk
    | exit id => exact hQ (.exit id) F H I ρ a w hn hk
    | ret => exact hQ .ret F H I ρ a w hn hk
  | cond c x y ihx ihy =>
    intro hst cur k r Q hQ F H I ρ a w hnow hrun
    simp only [drawsOk, Bool.and_eq_true] at hst
    unfold aevC at hrun
    split at hrun
    case h_2 => cases hrun
    rename_i t ht
    have hc := opv_ok hnow.rel hnow.frm c
    rw [ht] at hc
    simp only [VRel] at hc
    cases t
    · exact wp_cond_false hc (ihy hst.2 hQ hnow hrun)
    · exact wp_cond_true hc (ihx hst.1 hQ hnow hrun)
  | block id b ih =>
    intro hst cur k r Q hQ F H I ρ a w hnow hrun
    refine wp_block (ih hst ?_ hnow hrun)
    intro x F H I ρ a w hn hk
    cases x with
    | normal => exact hQ .normal F H I ρ a w hn hk
    | exit id' =>
      simp only [AExit.conv, Exit.inBlock]
      dsimp only at hk
      rw [cond_eq_ite] at hk
      split at hk
      · rename_i h; rw [if_pos (by simpa using h)]; exact hQ .normal F H I ρ a w hn hk
      · rename_i h; rw [if_neg (by simpa using h)]; exact hQ (.exit id') F H I ρ a w hn hk
    | ret => exact hQ .ret F H I ρ a w hn hk
  | loop b ih =>
    intro hst cur k r Q hQ F H I ρ a w hnow hrun
    refine wp_loop_n (n := lf) (fun n a w => ∃ F H I ρ, Now E e N F H I ρ a w ∧ loopN e.m (keep cur) (fun F H k => aevC E e.m N keep call lf cur b F H k) n F H k = some r) ?_ ?_ ⟨F, H, I, ρ, hnow, hrun⟩
    · rintro n a w ⟨F, H, I, ρ, hnow, hrun⟩
      unfold loopN at hrun
      dsimp only at hrun
      rw [cond_eq_ite] at hrun
      split at hrun
      case isFalse => cases hrun
      rename_i hc
      simp only [Bool.and_eq_true, List.all_eq_true, Nat.ble_eq] at hc
      obtain ⟨ρ', hn'⟩ := (hnow.keep (keep cur)).gc (nodup_of hc.1.1) hc.1.2
      refine ih hst ?_ hn' hrun
      intro x F H I ρ a w hn hk
      cases x with
      | normal => exact ⟨F, H, I, ρ, hn, hk⟩
      | exit id => exact hQ (.exit id) F H I ρ a w hn hk
      | ret => exact hQ .ret F H I ρ a w hn hk
    · rintro a w ⟨F, H, I, ρ, _, hrun⟩
      simp [loopN] at hrun
  | scope b ih =>
    intro hst cur k r Q hQ F H I ρ a w hnow hrun
    refine wp_scope_straight (ih hst ?_ hnow hrun)
    intro x F H I ρ a w hn hk
    cases x with
    | normal => exact hQ .normal F H I ρ a w hn hk
    | exit id => exact hQ (.exit id) F H I ρ a w hn hk
    | ret => exact hQ .ret F H I ρ a w hn hk
  | rangeFunc f ps as b => intro _ cur k r Q hQ F H I ρ a w hnow hrun; simp [aevC] at hrun
  | goto l => intro _ cur k r Q hQ F H I ρ a w hnow hrun; simp [aevC] at hrun
  | refuse s => intro _ cur k r Q hQ F H I ρ a w hnow hrun; simp [aevC] at hrun
end
end Go.Ax

/- AxFun: functions. -/
namespace Go.Ax
section
variable {E : Env} {I K : Nat → Prop} {ρ : PMap} {h : FHeap} {w : World}

theorem aload_run (ok : EnvOk E) (r : HRel E.G I K ρ h w) {t : TypeId} {p v : AV} {c : Value} (hl : aload E h t p = some v) (hp : VRel I w ρ p c) :
    ∃ a d, c = .pointer (some a) ∧ (loadVar t a).run E.P w = .ok d w ∧ VRel I w ρ v d := by
  cases p with
  | ptr b i o =>
    simp only [aload] at hl
    cases hb : h b with
    | none => simp [hb] at hl
    | some ob =>
      cases ob with
      | row k rows =>
        simp only [hb] at hl
        cases hr : rows[i]? with
        | none => simp [hr] at hl
        | some rw' =>
          simp only [hr] at hl
          obtain ⟨m, hm, _, _, ho⟩ := r.live b _ hb
          obtain ⟨hk, hk0, _, hrows⟩ := ho
          obtain ⟨hlen, hat⟩ := VRows.get i hrows hr
          simp only [VRel] at hp
          obtain ⟨m', hm', rfl⟩ := hp
          obtain rfl : m = m' := Option.some.inj (hm.symm.trans hm')
          by_cases hsz : o ≤ rw'.length
          · have hat' : VAt I w ρ ((rw'.drop o).take (E.sz t)) m.blk (m.off + i * m.k + o) := by
              rw [hk]; exact VAt.take _ (VAt.drop o hsz hat)
            obtain ⟨c, hc, hv⟩ := run_loadVar ok hl hat'
            exact ⟨_, c, rfl, hc, hv⟩
          · have : rw'.drop o = [] := List.drop_eq_nil_of_le (by omega)
            rw [this] at hl
            unfold ofCells at hl
            simp only [List.take_nil, List.length_nil] at hl
            rw [cond_eq_ite] at hl
            split at hl
            · rename_i h0
              cases hd : E.und t with
              | none => simp [hd] at hl
              | some d =>
                simp only [hd] at hl
                have h0 : E.sz t = 0 := (show 0 = E.sz t by simpa using h0).symm
                cases hag : aggDesc d with
                | true =>
                  simp [hag] at hl; subst hl
                  refine ⟨_, .agg #[], rfl, ?_, by simp only [VRel]; exact ⟨#[], rfl, by simp [VRels]⟩⟩
                  simp [loadVar, run_agg ok w hd, hag, run_sz ok w hd, h0, loadCells, loadCellsFrom]
                | false => simp [hag] at hl
            · cases hl
      | map ks vs bs cl => simp [hb] at hl
      | siter s pos => simp [hb] at hl
  | iptr cs =>
    simp only [aload] at hl
    simp only [VRel] at hp
    obtain ⟨b, off, rfl, hI, hat⟩ := hp
    obtain ⟨c, hc, hv⟩ := run_loadVar ok hl (VAt.take _ hat)
    exact ⟨_, c, rfl, hc, VRel.noRef_any hv⟩
  | _ => simp [aload] at hl

def resF (tmps : Array Value) : ResultVar → Sem Value := fun
    | .tmp t => pure (tmps.getD t undef)
    | .cell a t => do loadVar t (← asAddr (tmps.getD a undef))

theorem aresults_ok (ok : EnvOk E) {H : Heap} {F : Frm} {tmps : Array Value} (r : HRel E.G I K ρ (HeapF H) w) (hF : ∀ s, VRel I w ρ (getF F s) (tmps.getD s undef)) :
    ∀ (rs : List ResultVar) {vs : List AV}, aresults E F H rs = some vs → ∃ cs : List Value, (rs.mapM (resF tmps)).run E.P w = .ok cs w ∧ VRels I w ρ vs cs
  | [], vs, ha => by
    simp only [aresults, Option.some.injEq] at ha; subst ha
    exact ⟨[], by simp, by simp [VRels]⟩
  | .tmp t :: rs, vs, ha => by
    unfold aresults at ha
    split at ha
    case h_2 => cases ha
    rename_i vs' h1
    cases ha
    obtain ⟨cs, h2, h3⟩ := aresults_ok ok r hF rs h1
    refine ⟨tmps.getD t undef :: cs, ?_, by simp only [VRels]; exact ⟨_, _, rfl, hF t, h3⟩⟩
    simp only [List.mapM_cons, resF, Sem.run_bind, Sem.run_pure, Result.andThen_ok, h2]
  | .cell a t :: rs, vs, ha => by
    unfold aresults at ha
    split at ha
    case h_2 => cases ha
    rename_i v vs' h0 h1
    cases ha
    obtain ⟨cs, h2, h3⟩ := aresults_ok ok r hF rs h1
    obtain ⟨ad, d, h4, h5, h6⟩ := aload_run ok r h0 (hF a)
    refine ⟨d :: cs, ?_, by simp only [VRels]; exact ⟨_, _, rfl, h6, h3⟩⟩
    simp only [List.mapM_cons, resF, h4, asAddr, Sem.run_bind, Sem.run_pure, Result.andThen_ok, h2, h5]

theorem results_ok (ok : EnvOk E) {fn : Func} {H : Heap} {F : Frm} {tmps : Array Value} (r : HRel E.G I K ρ (HeapF H) w) (hF : ∀ s, VRel I w ρ (getF F s) (tmps.getD s undef)) {vs : List AV} (ha : aresults E F H fn.results.toList = some vs) :
    ∃ c, (results fn tmps).run E.P w = .ok c w ∧ VRel I w ρ (oneOf vs) c := by
  obtain ⟨cs, h1, h2⟩ := aresults_ok ok r hF _ ha
  have hrun : (results fn tmps).run E.P w = .ok (if h : cs.toArray.size = 1 then cs.toArray[0] else .tuple cs.toArray) w := by
    have : results fn tmps = (do let vs ← fn.results.mapM (resF tmps); pure (if h : vs.size = 1 then vs[0] else .tuple vs)) := rfl
    rw [this, Array.mapM_eq_mapM_toList]
    simp only [bind_map_left, Sem.run_bind, h1, Result.andThen_ok, Sem.run_pure]
  refine ⟨_, hrun, ?_⟩
  match vs, cs, h2 with
  | [], cs, h2 =>
    simp only [VRels] at h2; subst h2
    simp only [oneOf, VRel]; exact ⟨#[], by simp, by simp [VRels]⟩
  | [v], cs, h2 =>
    simp only [VRels] at h2
    obtain ⟨c, cs', rfl, h3, rfl⟩ := h2
    simpa [oneOf] using h3
  | v :: v' :: vs, cs, h2 =>
    have h2' := h2
    simp only [VRels] at h2
    obtain ⟨c, _, rfl, _, c', cs', rfl, _, _⟩ := h2
    simp only [oneOf, VRel]
    exact ⟨_, by simp, h2'⟩

theorem getF_entry : ∀ (args : List AV) (i s : Nat), getF (entryF i args) s = if i ≤ s then (args[s - i]?).getD .junk else .junk
  | [], i, s => by simp [entryF, getF]
  | v :: vs, i, s => by
    simp only [entryF, getF, nbeq, getF_entry vs (i + 1) s]
    by_cases h : i = s
    · subst h; simp
    · rw [beq_eq_false_iff_ne.2 h]
      by_cases h1 : i < s
      · simp only [cond_false]
        rw [if_pos (by omega), if_pos (by omega), show s - i = (s - (i + 1)) + 1 by omega, List.getElem?_cons_succ]
      · simp only [cond_false]
        rw [if_neg (by omega), if_neg (by omega)]

theorem entry_frm {args : List AV} {cargs : List Value} {n : Nat} (hn : args.length ≤ n) (h : VRels I w ρ args cargs) : FRel I w ρ n (entryF 0 args) (cargs.toArray ++ Array.replicate (n - cargs.toArray.size) undef) := by
  have hlen := VRels.length h
  refine ⟨by simp; omega, fun s => ?_⟩
  rw [getF_entry]
  simp only [Nat.zero_le, if_true, Nat.sub_zero]
  cases hs : args[s]? with
  | none => simp [VRel]
  | some v =>
    have hsl := (List.getElem?_eq_some_iff.1 hs).1
    obtain ⟨c, hc, hv⟩ := VRels.get s h hs
    simp only [Option.getD_some, Array.getD_eq_getD_getElem?]
    rw [Array.getElem?_append_left (by simp; omega)]
    simp only [List.getElem?_toArray, hc, Option.getD_some]
    exact hv

theorem finish_ok {thaw : Bool} {m : Nat} {v v' : AV} {c : Value} {H H' : Heap} (hf : finish thaw m v H = some (v', H')) (hm : m ≤ H.length) (r : HRel E.G I K ρ (HeapF H) w) (hn : NRel ρ H.length) (hv : VRel I w ρ v c) :
    ∃ I' ρ', (∀ c, I c → I' c) ∧ (∀ b, b < m → ρ' b = ρ b) ∧ HRel E.G I' K ρ' (HeapF H') w ∧ NRel ρ' H'.length ∧ m ≤ H'.length ∧ VRel I' w ρ' v' c := by
  unfold finish at hf
  rw [cond_eq_ite] at hf
  split at hf
  · cases hf
    exact ⟨I, ρ, fun _ h => h, fun _ _ => rfl, r, hn, hm, hv⟩
  · split at hf
    case h_2 => cases hf
    rename_i v1 hfr
    cases hf
    have hlen : ((H.take m).map (Option.map (renObj (piBelow m)))).length = m := by simp; omega
    obtain ⟨h1, h2⟩ := frozen_ok (h' := HeapF ((H.take m).map (Option.map (renObj (piBelow m))))) r hfr hv (by
      intro b o' hb
      simp only [HeapF, List.getElem?_map, List.getElem?_take] at hb
      split at hb
      case isFalse => simp at hb
      rename_i hlt
      cases hx : H[b]? with
      | none => rw [hx] at hb; simp at hb
      | some ob =>
        rw [hx] at hb
        simp only [Option.map_some, Option.join_some] at hb
        obtain ⟨o, rfl, rfl⟩ := map_some_inv hb
        exact ⟨o, hlt, by simp [HeapF, hx], rfl⟩)
    refine ⟨_, _, fun _ h => .inl h, fun b hb => by simp [PMap.below, hb], h1, ?_, by rw [hlen]; exact Nat.le_refl _, h2⟩
    intro b hb
    rw [hlen] at hb
    simp only [PMap.below]
    rw [if_neg (by omega)]
end

/-- Every function, as far as the evaluator goes. -/
theorem acall_ok {E : Env} (ok : EnvOk E) (hdr : ∀ f i, E.fn f = some i → drawsOk i.code = true) : ∀ n, CallsOk E (acall E n)
  | 0 => by intro g args H v H' hrun; simp [acall] at hrun
  | n + 1 => by
    intro g args H v H' hrun I K ρ w cargs rel hn ha
    have ih := acall_ok ok hdr n
    unfold acall at hrun
    split at hrun
    · cases hrun
    rename_i i hi
    rw [cond_eq_ite] at hrun
    split at hrun
    case isFalse => cases hrun
    rename_i hle
    obtain ⟨fn, h1, h2, h3, h4, _⟩ := ok.fn g i hi
    refine calls_of_wp h1 h2 ?_
    rw [h3]
    let e : Entry := ⟨I, K, ρ, H.length, w, []⟩
    have hnow : Now E e i.ntmps (entryF 0 args) H I ρ { tmps := cargs.toArray ++ Array.replicate (i.ntmps - cargs.toArray.size) undef, defers := [] } w :=
      ⟨fun _ h => h, fun _ _ => rfl, Ext.refl _ _ _, rel, hn, entry_frm (by simpa [Nat.ble_eq] using hle) ha, Nat.le_refl _, rfl⟩
    refine code_ok (e := e) ok ih i.code (hdr g i hi) ?_ hnow hrun
    intro x F' H1 I1 ρ1 a w1 hn1 hk
    have fin : (match aresults E F' H1 i.results with
          | some vs => finish (E.thaw g) H.length (oneOf vs) H1
          | none => none) = some (v, H') → a.defers = [] ∧ ∃ c, (results fn a.tmps).run E.P w1 = .ok c w1 ∧ ∃ c' I' ρ', Ending.returned c = .returned c' ∧ Ret E I K ρ H.length w I' ρ' H' w1 ∧ VRel I' w1 ρ' v c' := by
      intro hk
      split at hk
      case h_2 => cases hk
      rename_i vs hvs
      rw [← h4] at hvs
      obtain ⟨c, hr, hv⟩ := results_ok ok hn1.rel hn1.frm.2 hvs
      obtain ⟨I2, ρ2, f1, f2, f3, f4, f5, f6⟩ := finish_ok hk hn1.low hn1.rel hn1.nrel hv
      exact ⟨hn1.defers, c, hr, c, I2, ρ2, rfl, ⟨fun c hc => f1 c (hn1.imm c hc), fun b hb => by rw [f2 b hb]; exact hn1.map b hb, hn1.ext, f3, f4, f5⟩, f6⟩
    cases x with
    | normal => exact fin hk
    | exit id => cases hk
    | ret => exact fin hk
end Go.Ax

/- AxLive: which slots are read from a loop's head on. Definitions only: nothing rests on them. -/
namespace Go.Ax

def slotsOfL : List Operand → List Nat
  | [] => []
  | .tmp t :: r => t :: slotsOfL r
  | _ :: r => slotsOfL r
def addN (a : Nat) (l : List Nat) : List Nat := bif l.contains a then l else a :: l
def addAll : List Nat → List Nat → List Nat
  | [], l => l
  | a :: r, l => addN a (addAll r l)
def minusN (l : List Nat) (a : Nat) : List Nat := l.filter fun x => !(Nat.beq x a)
/-- Slots that are read from before a region on. -/
def liveOps (all : List Oper) : List Oper → List Nat → List Nat
  | [], out => out
  | o :: r, out =>
    let l := liveOps all r out
    let l := match o.dst with | some d => minusN l d | none => l
    let l := match o.guard with | some (j, _) => (match (all[j]?).bind (·.dst) with | some d => addN d l | none => l) | none => l
    addAll (slotsOfL o.op.operands.toList) l
def seekL : List (Nat × List Nat) → Nat → List Nat
  | [], _ => []
  | (i, l) :: r, j => bif Nat.beq i j then l else seekL r j
def unionN (a b : List Nat) : List Nat := addAll a b
/-- Slots that are read from before a statement on; what loops' heads keep, by the number of the block around them. -/
def liveC (ret : List Nat) : Nat → Nat → Code → List (Nat × List Nat) → List Nat → List Nat × List (Nat × List Nat)
  | 0, _, _, _, out => (out, [])
  | f + 1, cur, c, ex, out => match c with
    | .region _ ops _ => (liveOps ops.toList ops.toList out, [])
    | .seq a b => let y := liveC ret f cur b ex out; let x := liveC ret f cur a ex y.1; (x.1, x.2 ++ y.2)
    | .cond c a b => let x := liveC ret f cur a ex out; let y := liveC ret f cur b ex out; (addAll (slotsOfL [c]) (unionN x.1 y.1), x.2 ++ y.2)
    | .block id b => liveC ret f id b ((id, out) :: ex) out
    | .loop b => let rec go : Nat → List Nat → List Nat × List (Nat × List Nat)
        | 0, l => (l, [])
        | k + 1, l =>
          let x := liveC ret f cur b ex l
          let l' := unionN x.1 l
          bif Nat.beq l'.length l.length then (l, (cur, l) :: x.2) else go k l'
      go 100 []
    | .scope b => liveC ret f cur b ex out
    | .exit id => (seekL ex id, [])
    | .ret => (ret, [])
    | _ => (out, [])
def keepC (fn : Func) (c : Code) : List (Nat × List Nat) :=
  let ret := addAll (fn.results.toList.map fun | .tmp t => t | .cell a _ => a) []
  (liveC ret 100000 0 c [] ret).2.map fun x => (x.1, x.2.mergeSort)
end Go.Ax

/- AxInst: the tables of the evaluator, read off a program. -/
namespace Go.Ax
/-! ### tables that are searched -/
inductive Tab (α : Type) where
  | nil
  | node (l : Tab α) (k : Nat) (v : α) (r : Tab α)
def Tab.get {α : Type} : Tab α → Nat → Option α
  | .nil, _ => none
  | .node l k v r, i => bif Nat.blt i k then l.get i else bif Nat.beq i k then some v else r.get i
def Tab.all {α : Type} (p : Nat → α → Bool) : Tab α → Bool
  | .nil => true
  | .node l k v r => p k v && l.all p && r.all p
theorem Tab.all_get {α : Type} {p : Nat → α → Bool} : ∀ {t : Tab α} {i : Nat} {x : α}, t.all p = true → t.get i = some x → p i x = true
  | .nil, i, x, _, h => by simp [Tab.get] at h
  | .node l k v r, i, x, ha, h => by
    simp only [Tab.all, Bool.and_eq_true] at ha
    simp only [Tab.get, cond_eq_ite] at h
    split at h
    · exact Tab.all_get ha.1.2 h
    · split at h
      · rename_i hk
        have : i = k := by simpa using hk
        cases h; subst this; exact ha.1.1
      · exact Tab.all_get ha.2 h
/-- The first n of a list, from number lo on; and what is left of the list. -/
def Tab.build {α : Type} : (f n lo : Nat) → List α → Tab α × List α
  | 0, _, _, l => (.nil, l)
  | f + 1, n, lo, l => bif Nat.beq n 0 then (.nil, l) else
    match Tab.build f (n / 2) lo l with
    | (t, v :: r) => match Tab.build f (n - n / 2 - 1) (lo + n / 2 + 1) r with
      | (t', r') => (.node t (lo + n / 2) v t', r')
    | (t, []) => (t, [])
def Tab.toList {α : Type} : Tab α → List α
  | .nil => []
  | .node l _ v r => l.toList ++ v :: r.toList
/-- Numbered one by one from lo. -/
def Tab.from {α : Type} : Nat → Tab α → Option Nat
  | lo, .nil => some lo
  | lo, .node l k _ r => match l.from lo with
    | some n => bif Nat.beq n k then r.from (k + 1) else none
    | none => none
theorem Tab.from_len {α : Type} : ∀ {t : Tab α} {lo n : Nat}, t.from lo = some n → n = lo + t.toList.length
  | .nil, lo, n, h => by simp only [Tab.from, Option.some.injEq] at h; simp [Tab.toList, h]
  | .node l k v r, lo, n, h => by
    unfold Tab.from at h
    split at h
    case h_2 => cases h
    rename_i m hm
    rw [cond_eq_ite] at h
    split at h
    case isFalse => cases h
    rename_i hk
    have hk : m = k := by simpa using hk
    have h1 := Tab.from_len hm
    have h2 := Tab.from_len h
    simp [Tab.toList]; omega
theorem Tab.get_from {α : Type} : ∀ {t : Tab α} {lo n i : Nat} {x : α}, t.from lo = some n → t.get i = some x → lo ≤ i ∧ t.toList[i - lo]? = some x
  | .nil, lo, n, i, x, _, h => by simp [Tab.get] at h
  | .node l k v r, lo, n, i, x, hf, h => by
    unfold Tab.from at hf
    split at hf
    case h_2 => cases hf
    rename_i m hm
    rw [cond_eq_ite] at hf
    split at hf
    case isFalse => cases hf
    rename_i hk
    have hk : m = k := by simpa using hk
    subst hk
    have hl := Tab.from_len hm
    simp only [Tab.get, cond_eq_ite] at h
    split at h
    · rename_i hlt
      obtain ⟨h1, h2⟩ := Tab.get_from hm h
      have hlt : i < m := by simpa [Nat.blt_eq] using hlt
      refine ⟨h1, ?_⟩
      simp only [Tab.toList]
      rw [List.getElem?_append_left (by omega)]; exact h2
    · split at h
      · rename_i hk
        have : i = m := by simpa using hk
        cases h; subst this
        refine ⟨by omega, ?_⟩
        simp only [Tab.toList]
        rw [List.getElem?_append_right (by omega), show i - lo - l.toList.length = 0 by omega]; rfl
      · obtain ⟨h1, h2⟩ := Tab.get_from hf h
        refine ⟨by omega, ?_⟩
        simp only [Tab.toList]
        rw [List.getElem?_append_right (by omega), show i - lo - l.toList.length = (i - (m + 1)) + 1 by omega, List.getElem?_cons_succ]; exact h2

/-! ### the tables of a program -/
def undT (T : Tab TypeInfo) (t : TypeId) : Option TypeDesc :=
  match T.get t with
  | some i => match i.desc with
    | .named _ u => match T.get u with
      | some j => some j.desc
      | none => none
    | d => some d
  | none => none
def zeroT (T : Tab TypeInfo) (t : TypeId) : Option (List AV) :=
  match T.get t with
  | some i => match i.zero with
    | some z => bif (undT T t).isSome && Nat.beq z.cells.toList.length i.size then some (z.cells.toList.map constCell) else none
    | none => none
  | none => none
def eqokT (P : Program) (T : Tab TypeInfo) (t : TypeId) : Bool :=
  !(P.eqGuardType P.depth t) && !(P.stoodInHeld t) && (match T.get t with | some i => i.comparable | none => false) &&
    (match undT T t with | some (.struct fs) => fs.toList.all (fun f => !(f.name == "_")) | _ => true)
def shapeT (T : Tab TypeInfo) (t : Nat) (i : TypeInfo) : Bool :=
  match undT T t, i.zero with
  | some d, some (.agg _) => aggDesc d
  | some d, some _ => !(aggDesc d)
  | _, _ => true

structure Laid where
  P : Program
  T : Tab TypeInfo
  F : Tab Func
  keep : Tab (List (Nat × List Nat))
  eqs : Tab Bool
  G : Nat → Option (List AV)
  thaw : Nat → Bool
  ext : Nat → Bool
def Laid.env (L : Laid) : Env := {
  P := L.P
  und := undT L.T
  sz := fun t => match L.T.get t with | some i => i.size | none => 0
  bytes := fun t => match L.T.get t with | some i => i.bytes | none => 0
  zero := zeroT L.T
  eqok := fun t => match L.eqs.get t with | some b => b | none => false
  G := L.G
  fn := fun f => match L.F.get f with
    | some fn => match fn.body with
      | some c => some ⟨c, fn.ntmps, fn.results.toList⟩
      | none => none
    | none => none
  keep := fun f => match L.keep.get f with | some l => seekL l | none => fun _ => []
  thaw := L.thaw
  ext := L.ext }

structure LaidOk (L : Laid) : Prop where
  types : ∀ i x, L.T.get i = some x → L.P.types[i]? = some x
  funcs : ∀ i x, L.F.get i = some x → L.P.funcs[i]? = some x
  shape : L.T.all (shapeT L.T) = true
  names : L.F.all (fun _ fn => !(fn.name == "runtime.NumGoroutine")) = true
  eqs : L.eqs.all (fun t b => !b || eqokT L.P L.T t) = true
  ext : ∀ f, L.ext f = true → ∃ fn, L.P.funcs[f]? = some fn ∧ fn.body = none ∧ (fn.name == "runtime.NumGoroutine") = false ∧ Extern.findNext fn = none ∧ Extern.find fn = some Extern.BytealgIndexByte.indexByte
  mixed : L.P.follows .mixedOrders = true
  draws : L.F.all (fun _ fn => match fn.body with | some c => drawsOk c | none => true) = true

theorem get_of_tab {α : Type} {t : Tab α} {l : List α} {n : Nat} (h1 : t.from 0 = some n) (h2 : t.toList = l) : ∀ i x, t.get i = some x → l.toArray[i]? = some x := by
  intro i x h
  obtain ⟨_, h3⟩ := Tab.get_from h1 h
  rw [h2] at h3
  simpa using h3

section
variable {L : Laid} (ok : LaidOk L)
include ok
theorem info_of {t : Nat} {i : TypeInfo} (h : L.T.get t = some i) : L.P.info? t = some i := by
  have h1 := ok.types t i h
  have h2 := (Array.getElem?_eq_some_iff.1 h1).1
  show (if t < L.P.types.size then L.P.types[t]? else _) = _
  rw [if_pos h2]; exact h1
theorem und_of {t : Nat} {d : TypeDesc} (h : undT L.T t = some d) : L.P.underlying t = some d ∧ ∃ i, L.T.get t = some i := by
  unfold undT at h
  split at h
  case h_2 => cases h
  rename_i i hi
  refine ⟨?_, i, hi⟩
  have h1 := info_of ok hi
  unfold Program.underlying
  rw [h1]
  split at h
  · rename_i nm u hd
    split at h
    case h_2 => cases h
    rename_i j hj
    cases h
    have h2 := info_of ok hj
    cases i
    simp only at hd
    subst hd
    simp [h2]
  · rename_i d' hne
    cases h
    cases i
    rename_i dd _ _ _ _ _ _ _ _ _
    cases dd <;> first | rfl | exact absurd rfl (hne _ _)

theorem LaidOk.envOk : EnvOk L.env where
  und t d h := by
    obtain ⟨h1, i, hi⟩ := und_of ok h
    exact ⟨h1, i, info_of ok hi, by simp [Laid.env, hi], by simp [Laid.env, hi]⟩
  zero t cs h := by
    have h : zeroT L.T t = some cs := h
    unfold zeroT at h
    split at h
    case h_2 => cases h
    rename_i i hi
    split at h
    case h_2 => cases h
    rename_i z hz
    rw [cond_eq_ite] at h
    split at h
    case isFalse => cases h
    rename_i hc
    simp only [Bool.and_eq_true, Nat.beq_eq] at hc
    cases h
    refine ⟨Option.isSome_iff_exists.1 hc.1, i, z, info_of ok hi, hz, by simp [Laid.env, hi, hc.2], fun I w => constCells_ok _⟩
  zshape t d i z hd hi hz := by
    obtain ⟨_, j, hj⟩ := und_of ok hd
    have hji := info_of ok hj
    have : i = j := Option.some.inj (hi.symm.trans hji)
    subst this
    have hs := Tab.all_get ok.shape hj
    have hd : undT L.T t = some d := hd
    simp only [shapeT, hd, hz] at hs
    cases z with
    | agg a => simp only at hs; exact ⟨fun _ => ⟨a, rfl⟩, fun h => by rw [hs] at h; cases h⟩
    | _ => simp only [Bool.not_eq_true'] at hs; exact ⟨fun h => (by rw [hs] at h; cases h), fun _ => rfl⟩
  eqok t h := by
    have h : (match L.eqs.get t with | some b => b | none => false) = true := h
    split at h
    case h_2 => cases h
    rename_i b hb
    subst h
    have h := Tab.all_get ok.eqs hb
    simp only [Bool.not_true, Bool.false_or, eqokT, Bool.and_eq_true, Bool.not_eq_true'] at h
    obtain ⟨⟨⟨h1, h2⟩, h3⟩, h4⟩ := h
    refine ⟨h1, h2, ?_, ?_⟩
    · split at h3
      · rename_i i hi; exact ⟨i, info_of ok hi, h3⟩
      · cases h3
    · intro fs hfs f hf
      have hfs : undT L.T t = some (.struct fs) := hfs
      rw [hfs] at h4
      simp only [List.all_eq_true, Bool.not_eq_true', beq_eq_false_iff_ne] at h4
      exact h4 f hf
  fn f i h := by
    have h : (match L.F.get f with
      | some fn => match fn.body with
        | some c => some (⟨c, fn.ntmps, fn.results.toList⟩ : FInfo)
        | none => none
      | none => none) = some i := h
    split at h
    case h_2 => cases h
    rename_i fn hfn
    split at h
    case h_2 => cases h
    rename_i c hc
    cases h
    have hn := Tab.all_get ok.names hfn
    exact ⟨fn, ok.funcs f fn hfn, hc, rfl, rfl, by simpa using hn⟩
  ext := ok.ext
  mixed := ok.mixed
theorem LaidOk.drawn : ∀ f i, L.env.fn f = some i → drawsOk i.code = true := by
  intro f i h
  have h : (match L.F.get f with
    | some fn => match fn.body with
      | some c => some (⟨c, fn.ntmps, fn.results.toList⟩ : FInfo)
      | none => none
    | none => none) = some i := h
  split at h
  case h_2 => cases h
  rename_i fn hfn
  split at h
  case h_2 => cases h
  rename_i c hc
  cases h
  have := Tab.all_get ok.draws hfn
  simpa [hc] using this
end
end Go.Ax

/- AxMemo: calls whose answer is known already. -/
namespace Go.Ax

def eqNs : List UInt8 → List UInt8 → Bool
  | [], [] => true
  | a :: r, b :: s => Nat.beq a.toNat b.toNat && eqNs r s
  | _, _ => false
theorem eqNs_ok : ∀ {a b : List UInt8}, eqNs a b = true → a = b
  | [], [], _ => rfl
  | [], _ :: _, h => by simp [eqNs] at h
  | _ :: _, [], h => by simp [eqNs] at h
  | a :: r, b :: s, h => by
    simp only [eqNs, Bool.and_eq_true, Nat.beq_eq] at h
    rw [eqNs_ok h.2, UInt8.toNat_inj.1 h.1]
def eqO : Option Nat → Option Nat → Bool
  | none, none => true
  | some a, some b => Nat.beq a b
  | _, _ => false
theorem eqO_ok {a b : Option Nat} (h : eqO a b = true) : a = b := by
  cases a <;> cases b <;> simp_all [eqO]
def eqI : Int → Int → Bool
  | .ofNat a, .ofNat b => Nat.beq a b
  | .negSucc a, .negSucc b => Nat.beq a b
  | _, _ => false
theorem eqI_ok {a b : Int} (h : eqI a b = true) : a = b := by
  cases a <;> cases b <;> simp_all [eqI]

mutual
def eqV : AV → AV → Bool
  | .bool a, .bool b => match a, b with | true, true => true | false, false => true | _, _ => false
  | .int k n, .int k' n' => decide (k = k') && eqI n n'
  | .str s, .str t => eqNs s t
  | .nilptr, .nilptr => true
  | .nilslice, .nilslice => true
  | .nilmap, .nilmap => true
  | .nilfunc, .nilfunc => true
  | .nilifc, .nilifc => true
  | .iptr cs, .iptr ds => eqL cs ds
  | .islice r c, .islice r' c' => eqO c c' && eqR r r'
  | .agg cs, .agg ds => eqL cs ds
  | .tuple cs, .tuple ds => eqL cs ds
  | _, _ => false
def eqL : List AV → List AV → Bool
  | [], [] => true
  | a :: r, b :: s => eqV a b && eqL r s
  | _, _ => false
def eqR : List (List AV) → List (List AV) → Bool
  | [], [] => true
  | a :: r, b :: s => eqL a b && eqR r s
  | _, _ => false
end
mutual
theorem eqV_ok : ∀ (a b : AV), eqV a b = true → a = b
  | .bool a, b, h => by cases b <;> simp only [eqV] at h <;> first | (cases h; done) | (split at h <;> first | rfl | cases h)
  | .int k n, b, h => by
    cases b <;> simp only [eqV] at h <;> first | (cases h; done) | skip
    simp only [Bool.and_eq_true, decide_eq_true_eq] at h
    rw [h.1, eqI_ok h.2]
  | .str s, b, h => by cases b <;> simp only [eqV] at h <;> first | (cases h; done) | rw [eqNs_ok h]
  | .nilptr, b, h => by cases b <;> simp only [eqV] at h <;> first | rfl | (cases h; done)
  | .nilslice, b, h => by cases b <;> simp only [eqV] at h <;> first | rfl | (cases h; done)
  | .nilmap, b, h => by cases b <;> simp only [eqV] at h <;> first | rfl | (cases h; done)
  | .nilfunc, b, h => by cases b <;> simp only [eqV] at h <;> first | rfl | (cases h; done)
  | .nilifc, b, h => by cases b <;> simp only [eqV] at h <;> first | rfl | (cases h; done)
  | .iptr cs, b, h => by cases b <;> simp only [eqV] at h <;> first | (cases h; done) | rw [eqL_ok _ _ h]
  | .islice r c, b, h => by
    cases b <;> simp only [eqV] at h <;> first | (cases h; done) | skip
    simp only [Bool.and_eq_true] at h
    rw [eqO_ok h.1, eqR_ok _ _ h.2]
  | .agg cs, b, h => by cases b <;> simp only [eqV] at h <;> first | (cases h; done) | rw [eqL_ok _ _ h]
  | .tuple cs, b, h => by cases b <;> simp only [eqV] at h <;> first | (cases h; done) | rw [eqL_ok _ _ h]
  | .junk, b, h => by simp [eqV] at h
  | .ptr .., b, h => by simp [eqV] at h
  | .slice .., b, h => by simp [eqV] at h
  | .map .., b, h => by simp [eqV] at h
  | .imap .., b, h => by simp [eqV] at h
  | .func .., b, h => by simp [eqV] at h
  | .iface .., b, h => by simp [eqV] at h
theorem eqL_ok : ∀ (a b : List AV), eqL a b = true → a = b
  | [], b, h => by cases b <;> simp [eqL] at h <;> rfl
  | x :: r, b, h => by
    cases b <;> simp only [eqL] at h
    · cases h
    · simp only [Bool.and_eq_true] at h
      rw [eqV_ok _ _ h.1, eqL_ok _ _ h.2]
theorem eqR_ok : ∀ (a b : List (List AV)), eqR a b = true → a = b
  | [], b, h => by cases b <;> simp [eqR] at h <;> rfl
  | x :: r, b, h => by
    cases b <;> simp only [eqR] at h
    · cases h
    · simp only [Bool.and_eq_true] at h
      rw [eqL_ok _ _ h.1, eqR_ok _ _ h.2]
end

structure Fact where
  g : Nat
  args : List AV
  v : AV
/-- The call of an empty heap answers this. -/
def FactOk (E : Env) (x : Fact) : Prop :=
  ∀ (I K : Nat → Prop) (ρ : PMap) (w : World) (cargs : List Value), HRel E.G I K ρ (HeapF []) w → NRel ρ 0 → VRels I w ρ x.args cargs →
    Calls E.P x.g cargs.toArray w fun en w' => ∃ c I' ρ', en = .returned c ∧ Ret E I K ρ 0 w I' ρ' [] w' ∧ VRel I' w' ρ' x.v c
def seek : List Fact → FuncId → List AV → Option AV
  | [], _, _ => none
  | x :: r, g, args => bif Nat.beq x.g g && eqL x.args args then some x.v else seek r g args
def memo (M : List Fact) (call : FuncId → List AV → Heap → Option (AV × Heap)) (g : FuncId) (args : List AV) (H : Heap) : Option (AV × Heap) :=
  match H with
  | [] => match seek M g args with
    | some v => some (v, [])
    | none => call g args []
  | b :: r => call g args (b :: r)
theorem seek_ok {E : Env} {g : FuncId} {args : List AV} {v : AV} : ∀ {M : List Fact}, (∀ x ∈ M, FactOk E x) → seek M g args = some v → FactOk E ⟨g, args, v⟩
  | [], _, h => by simp [seek] at h
  | x :: r, hM, h => by
    simp only [seek, cond_eq_ite] at h
    split at h
    · rename_i hc
      simp only [Bool.and_eq_true, Nat.beq_eq] at hc
      cases h
      have := hM x (by simp)
      obtain ⟨g', a', v'⟩ := x
      simp only at hc this
      have h1 := hc.1
      have h2 := eqL_ok _ _ hc.2
      subst h1; subst h2
      exact this
    · exact seek_ok (fun x hx => hM x (by simp [hx])) h
theorem memo_ok {E : Env} {M : List Fact} (hM : ∀ x ∈ M, FactOk E x) {call : FuncId → List AV → Heap → Option (AV × Heap)} (hcall : CallsOk E call) : CallsOk E (memo M call) := by
  intro g args H v H' hrun
  unfold memo at hrun
  split at hrun
  · split at hrun
    · rename_i v' hs
      cases hrun
      exact seek_ok hM hs
    · exact hcall g args [] v H' hrun
  · exact hcall g args _ v H' hrun

def runFn (E : Env) (call : FuncId → List AV → Heap → Option (AV × Heap)) (lf : Nat) (f : FuncId) (args : List AV) (H : Heap) : Option (AV × Heap) :=
  match E.fn f with
  | none => none
  | some i => bif Nat.ble args.length i.ntmps then
      aevC E H.length i.ntmps (E.keep f) call lf 0 i.code (entryF 0 args) H fun e F' H' => match e with
        | .exit _ => none
        | _ => match aresults E F' H' i.results with
          | some vs => finish (E.thaw f) H.length (oneOf vs) H'
          | none => none
    else none
def mcall (E : Env) (M : List Fact) : Nat → FuncId → List AV → Heap → Option (AV × Heap)
  | 0, _, _, _ => none
  | n + 1, f, args, H => memo M (runFn E (mcall E M n) (n + 1)) f args H

theorem runFn_ok {E : Env} (ok : EnvOk E) (hdr : ∀ f i, E.fn f = some i → drawsOk i.code = true) {call : FuncId → List AV → Heap → Option (AV × Heap)} (hcall : CallsOk E call) (lf : Nat) : CallsOk E (runFn E call lf) := by
    intro g args H v H' hrun I K ρ w cargs rel hn ha
    unfold runFn at hrun
    split at hrun
    · cases hrun
    rename_i i hi
    rw [cond_eq_ite] at hrun
    split at hrun
    case isFalse => cases hrun
    rename_i hle
    obtain ⟨fn, h1, h2, h3, h4, _⟩ := ok.fn g i hi
    refine calls_of_wp h1 h2 ?_
    rw [h3]
    let e : Entry := ⟨I, K, ρ, H.length, w, []⟩
    have hnow : Now E e i.ntmps (entryF 0 args) H I ρ { tmps := cargs.toArray ++ Array.replicate (i.ntmps - cargs.toArray.size) undef, defers := [] } w :=
      ⟨fun _ h => h, fun _ _ => rfl, Ext.refl _ _ _, rel, hn, entry_frm (by simpa [Nat.ble_eq] using hle) ha, Nat.le_refl _, rfl⟩
    refine code_ok (e := e) ok hcall i.code (hdr g i hi) ?_ hnow hrun
    intro x F' H1 I1 ρ1 a w1 hn1 hk
    have fin : (match aresults E F' H1 i.results with
          | some vs => finish (E.thaw g) H.length (oneOf vs) H1
          | none => none) = some (v, H') → a.defers = [] ∧ ∃ c, (results fn a.tmps).run E.P w1 = .ok c w1 ∧ ∃ c' I' ρ', Ending.returned c = .returned c' ∧ Ret E I K ρ H.length w I' ρ' H' w1 ∧ VRel I' w1 ρ' v c' := by
      intro hk
      split at hk
      case h_2 => cases hk
      rename_i vs hvs
      rw [← h4] at hvs
      obtain ⟨c, hr, hv⟩ := results_ok ok hn1.rel hn1.frm.2 hvs
      obtain ⟨I2, ρ2, f1, f2, f3, f4, f5, f6⟩ := finish_ok hk hn1.low hn1.rel hn1.nrel hv
      exact ⟨hn1.defers, c, hr, c, I2, ρ2, rfl, ⟨fun c hc => f1 c (hn1.imm c hc), fun b hb => by rw [f2 b hb]; exact hn1.map b hb, hn1.ext, f3, f4, f5⟩, f6⟩
    cases x with
    | normal => exact fin hk
    | exit id => cases hk
    | ret => exact fin hk

theorem mcall_ok {E : Env} (ok : EnvOk E) (hdr : ∀ f i, E.fn f = some i → drawsOk i.code = true) {M : List Fact} (hM : ∀ x ∈ M, FactOk E x) : ∀ n, CallsOk E (mcall E M n)
  | 0 => by intro g args H v H' hrun; simp [mcall] at hrun
  | n + 1 => memo_ok hM (runFn_ok ok hdr (mcall_ok ok hdr hM n) (n + 1))

/-- One more fact. -/
theorem fact_of {E : Env} (ok : EnvOk E) (hdr : ∀ f i, E.fn f = some i → drawsOk i.code = true) {M : List Fact} (hM : ∀ x ∈ M, FactOk E x) (n : Nat) {g : Nat} {args : List AV} {v : AV} (h : runFn E (mcall E M n) n g args [] = some (v, [])) :
    FactOk E ⟨g, args, v⟩ := runFn_ok ok hdr (mcall_ok ok hdr hM n) n g args [] v [] h
theorem facts_nil {E : Env} : ∀ x ∈ ([] : List Fact), FactOk E x := by simp
theorem facts_cons {E : Env} {x : Fact} {M : List Fact} (hx : FactOk E x) (hM : ∀ x ∈ M, FactOk E x) : ∀ y ∈ x :: M, FactOk E y := by
  intro y hy
  simp only [List.mem_cons] at hy
  rcases hy with rfl | hy
  · exact hx
  · exact hM y hy
end Go.Ax
