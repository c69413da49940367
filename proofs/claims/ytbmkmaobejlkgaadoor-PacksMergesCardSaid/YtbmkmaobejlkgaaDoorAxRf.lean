/- AxRf: loops over functions, as conditions on their ends; their rounds. -/
import Derived.Test.YtbmkmaobejlkgaaDoorAxF
set_option linter.unusedSimpArgs false
set_option linter.unusedVariables false
namespace Go.Ax
theorem flat_sum (H:Heap):((List.range H.length).map fun b=>(refsO (HeapF H b)).length).sum = (H.flatMap refsO).length:=by
 have:((List.range H.length).map fun b=>(refsO (HeapF H b)).length) = H.map fun o=>(refsO o).length:=by
  apply List.ext_getElem (by simp)
  intro b h1 h2
  simp only [List.length_map,List.length_range] at h1
  simp only [List.getElem_map,List.getElem_range]
  unfold HeapF
  rw [List.getElem?_eq_getElem h1];rfl
 rw [this,List.length_flatMap]
theorem gc_lowR {keep:List Nat} {F F':Frm} {H:Heap} {m:Nat} (hm:m = H.length) (hk:keepF keep F = F') (hF:∀ b ∈ refsL (F'.map (·.2)),b < H.length) (hn:(refsL (F'.map (·.2))).length < 1000) (hH:∀ b,∀ c ∈ refsO (HeapF H b),c < H.length) (hs:(H.flatMap refsO).length < 100000):gcD m keep F H = some (F',H):=by
 subst hk;subst hm
 have hfl:(H.take H.length).flatMap refsO = H.flatMap refsO:=by rw [List.take_length]
 obtain ⟨R,π,H1,h1,hg,hl⟩:=gc_gen (m:=H.length) (keep:=keep) (F:=F) (H:=H) (Nat.le_refl _) (List.range H.length) (fun b hb=>List.mem_range.2 (hF b hb)) (fun b _ c hc=>List.mem_range.2 (hH b c hc)) (fun b _ c hc=>List.mem_range.2 (hH b c hc)) (by rw [flat_sum,hfl];omega)
 have hlen:H1.length = H.length:=by
  have:=hg.len [] (fun b hR hb=>by
   have:=hg.least (fun b=>b < H.length) hF (fun b _ c hc=>hH b c hc) (fun b _ c hc=>hH b c hc) b hR
   omega)
  simp only [List.length_nil,Nat.add_zero] at this
  omega
 rw [h1,renF_below hg.low _ hF]
 have:H1 = H:=heap_ext hlen fun b hb=>by
  rw [hg.heap b b (hg.low b hb)]
  cases ho:HeapF H b with
  | none=>rfl
  | some o=>
   simp only [Option.map_some]
   rw [renO_below hg.low o (fun c hc=>hH b c (by rw [ho];exact hc))]
 rw [this]
def rfQ (Q:Post) (F:Frm) (H:Heap):Option YSt → Prop
 | some .ready=>Q .normal F H
 | some (.done none)=>Q .ret F H
 | some (.done (some id))=>Q (.exit id) F H
 | _=>False
theorem xp_rf {E:Env} {M:List Fact} {m N:Nat} {g:FuncId} {cur:Nat} {keep:List Nat} {f:Operand} {ps:Array Nat} {asg body:Code} {F:Frm} {H H2:Heap} {Q:Post} {g':FuncId} {fs cs:List AV} {y:Nat} {v:AV} {s:List Nat}
 (hk:E.keep g cur = keep) (hf:opv E F f = .func (.func g') fs cs) (hy:yOf keep = some y) (hfn:((E.fn g').isSome && !E.ext g') = true)
 (hc:callLoc (sem E M g') (fs ++ [.yfn H.length] ++ cs) (H ++ [some (.yloop y (keepF keep F) .ready)]) = some (v,H2,s))
 (hq:rfQ Q F (H2.set H.length none) (yGet H2 H.length)):Wp (cx E M m N g cur) (.rangeFunc f ps asg body) F H Q:=by
 subst hk
 cases hst:yGet H2 H.length with
 | none=>rw [hst] at hq;exact hq.elim
 | some st=>
  rw [hst] at hq
  cases st with
  | busy=>exact hq.elim
  | ready=>exact ⟨.normal,F,H2.set H.length none,⟨0,fun lf _ R k=>by simp only [aevC,cx,hf,hy,hfn,cond_true,hc,hst]⟩,hq⟩
  | done j=>
   cases j with
   | none=>exact ⟨.ret,F,H2.set H.length none,⟨0,fun lf _ R k=>by simp only [aevC,cx,hf,hy,hfn,cond_true,hc,hst]⟩,hq⟩
   | some id=>exact ⟨.exit id,F,H2.set H.length none,⟨0,fun lf _ R k=>by simp only [aevC,cx,hf,hy,hfn,cond_true,hc,hst]⟩,hq⟩
def ryE (b:Nat) (r:AV × Heap):Post:=fun e _ H2=>match e with
 | .normal=>(ySet H2 b .busy .ready).map (fun H=>(AV.bool true,H)) = some r
 | .ret=>(ySet H2 b .busy (.done none)).map (fun H=>(AV.bool false,H)) = some r
 | .exit id=>(ySet H2 b .busy (.done (some id))).map (fun H=>(AV.bool false,H)) = some r
def ryA (x:Cx) (b:Nat) (body:Code) (r:AV × Heap):Post:=fun e F H=>match e with
 | .normal=>∃ H1,ySet H b .ready .busy = some H1 ∧ Wp x body F H1 (ryE b r)
 | _=>False
theorem sem_round {E:Env} {M:List Fact} {b y:Nat} {vs:List AV} {H:Heap} {F:Frm} {ri:RInfo} {r:AV × Heap} (hno:∀ x ∈ M,x.g ≠ yId) (hfn:E.fn yId = none) (hb:HeapF H b = some (.yloop y F .ready)) (hr:E.G.rnd y = some ri)
 (hl:(Nat.beq vs.length ri.ps.length && ri.ps.all (Nat.blt · ri.N)) = true) {m:Nat} (hm:H.length = m)
 (h:Wp (cx E M m ri.N ri.fid 0) ri.asg (setsF F ri.ps vs) H (ryA (cx E M m ri.N ri.fid 0) b ri.body r)):sem E M yId (.yfn b :: vs) H = some r:=by
 subst hm
 obtain ⟨e,F',H',⟨n1,h1⟩,h2⟩:=wp_ev _ h
 cases e with
 | exit id=>exact h2.elim
 | ret=>exact h2.elim
 | normal=>
  obtain ⟨H1,h3,h4⟩:=h2
  obtain ⟨e,F2,H2,⟨n2,h5⟩,h6⟩:=wp_ev _ h4
  refine sem_run hno (max n1 n2) ?_
  unfold runFn
  rw [hfn]
  simp only
  have hyb:Nat.beq yId yId = true:=by simp
  rw [hyb]
  simp only [cond_true]
  unfold runRound
  simp only [hb,hr,hl,cond_true]
  refine (h1 _ (Nat.le_max_left _ _) _ _).trans ?_
  simp only [h3]
  refine (h5 _ (Nat.le_max_right _ _) _ _).trans ?_
  cases e with
  | normal=>exact h6
  | ret=>exact h6
  | exit id=>exact h6
theorem ryA_i {x:Cx} {b:Nat} {body:Code} {r:AV × Heap} {F:Frm} {H H1:Heap} (h1:ySet H b .ready .busy = some H1) (h2:Wp x body F H1 (ryE b r)):ryA x b body r .normal F H:=⟨H1,h1,h2⟩
theorem ryE_i {b:Nat} {r:AV × Heap} {F:Frm} {H2 H3:Heap} (h1:ySet H2 b .busy .ready = some H3) (h2:(AV.bool true,H3) = r):ryE b r .normal F H2:=by
 show (ySet H2 b .busy .ready).map _ = _
 rw [h1,← h2];rfl
@[go_sem] theorem setsF_cons (F:Frm) (t:Nat) (ts:List Nat) (v:AV) (vs:List AV):setsF F (t :: ts) (v :: vs) = setsF (setF F (some t) v) ts vs:=by rfl
@[go_sem] theorem setsF_nil (F:Frm):setsF F [] [] = F:=by rfl
theorem yfn_eq {E:Env} {draw:Bool} {call:CallF} {b:Nat} {args:List AV} {H H':Heap} {v:AV} {σ:List Nat} (h:callLoc (call yId) (.yfn b :: args) H = some (v,H',σ)) (hl:H'.length = H.length):callV E draw call (.yfn b) args H = some (v,H',σ):=by
 have hb:Nat.ble H.length H'.length = true:=by rw [hl,Nat.ble_eq];exact Nat.le_refl _
 simp only [callV,h,hb,Bool.not_true,Bool.and_false,cond_false]
@[go_sem] theorem refsO_yloop (y:Nat) (F:List (Nat × AV)) (st:YSt):refsO (some (.yloop y F st)) = refsF F:=by rfl
@[go_sem] theorem refsF_nil:refsF [] = []:=by rfl
@[go_sem] theorem refsF_cons (s:Nat) (v:AV) (r:List (Nat × AV)):refsF ((s,v) :: r) = refs v ++ refsF r:=by rfl
@[go_sem] theorem renObj_yloop (π:Nat → Option Nat) (y:Nat) (F:List (Nat × AV)) (st:YSt):renObj π (.yloop y F st) = .yloop y (renF π F) st:=by rfl
@[go_sem] theorem refs_yfn (b:Nat):refs (.yfn b) = [b]:=by rfl
theorem callV_le {E:Env} {draw:Bool} {call:CallF} {g:FuncId} {fs cs as args:List AV} {H:Heap} (hx:E.ext g = false) (hf:(E.fn g).isSome = true) (he:fs ++ as ++ cs = args) {v:AV} {H':Heap} {σ:List Nat}
 (h:callLoc (call g) args H = some (v,H',σ)) (hl:H.length ≤ H'.length):callV E draw call (.func (.func g) fs cs) as H = some (v,H',σ):=by
 have hb:Nat.ble H.length H'.length = true:=by rw [Nat.ble_eq];exact hl
 simp only [callV,hx,hf,he,h,hb,cond_true,cond_false,Bool.not_true,Bool.and_false]
theorem back_nil (n b:Nat):backOf [] n b = some (n + b):=by
 simp [backOf,Nat.blt]
 rfl
@[go_sem] theorem amin_ii (k k':IntKind) (a b:Int):amin (.int k a) [.int k' b] = some (.int k (if b < a then b else a)):=by rfl
end Go.Ax
