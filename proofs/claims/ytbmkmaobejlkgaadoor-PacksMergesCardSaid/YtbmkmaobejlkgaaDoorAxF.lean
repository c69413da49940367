/- AxTab: a table of rows of words in blocks, wherever they lie; heads of loops and calls over it. -/
import Derived.Test.YtbmkmaobejlkgaaDoorAxE
set_option linter.unusedSimpArgs false
set_option linter.unusedVariables false
namespace Go.Ax
structure Mv (H:Heap) (R:Nat → Prop) (π:Nat → Option Nat) (H1:Heap):Prop where
 inj:∀ a b c,π a = some c → π b = some c → a = b
 closed:∀ b,R b → ∀ c ∈ refsO (HeapF H b),R c
 here:∀ b,R b → ∃ c,π b = some c
 heap:∀ b c,R b → π b = some c → HeapF H1 c = (HeapF H b).map (renObj π)
theorem Gc.mv {m:Nat} {F:Frm} {H H1:Heap} {R:Nat → Prop} {π:Nat → Option Nat} (g:Gc m F H R π H1):Mv H R π H1:=⟨g.inj,g.closed,g.here,fun b c _ h=>g.heap b c h⟩
section
variable {H H1:Heap} {R:Nat → Prop} {π:Nat → Option Nat} {a b q:Nat} {ids:Nat → Nat} {w:Nat} {fo:List (List (BitVec 64))} {fr:Int}
end
/-! ### calls, wherever the blocks lie -/
theorem small_get {H:Heap} {σ:List Nat} (hn:σ.Nodup) {b:Nat} (hb:b ∈ σ):∃ j,piOf σ b = some j ∧ σ[j]? = some b ∧ HeapF (smallH H σ (piOf σ)) j = (HeapF H b).map (renObj (piOf σ)):=by
 obtain ⟨j,hj⟩:=List.mem_iff_getElem?.1 hb
 refine ⟨j,idxOf_of_get hn hj,hj,?_⟩
 unfold smallH HeapF
 rw [List.getElem?_map,hj];rfl
theorem put_in {H H1:Heap} {σ:List Nat} {n b j:Nat} (hn:σ.Nodup) (hj:σ[j]? = some b) (hb:b < H.length):HeapF (putBack σ n H1 0 H) b = (HeapF H1 j).map (renObj (backOf σ n)):=by
 unfold HeapF
 rw [putBack_get2,List.getElem?_eq_getElem hb,Nat.zero_add,idxOf_of_get hn hj]
 rfl
theorem putBack_len {σ:List Nat} {n:Nat} {H1:Heap}:∀ (s:Nat) (H:Heap),(putBack σ n H1 s H).length = H.length
 | _,[]=>rfl
 | s,o :: H=>by simp [putBack,putBack_len (s + 1) H]
theorem mv_small {H:Heap} {init σ:List Nat} (hr:Reached H init σ):Mv H (·∈ σ) (piOf σ) (smallH H σ (piOf σ)):=by
 refine ⟨?_,hr.closed,fun b hb=>?_,fun b c hb hc=>?_⟩
 ·intro a b c ha hb
  have h1:=idxOf_get ha
  have h2:=idxOf_get hb
  rw [h1] at h2;exact Option.some.inj h2
 ·obtain ⟨j,hj,_⟩:=small_get (H:=H) hr.nodup hb;exact ⟨j,hj⟩
 ·obtain ⟨j,hj,_,e⟩:=small_get (H:=H) hr.nodup hb
  rw [hj] at hc;cases hc;exact e
theorem mv_back {H H1:Heap} {σ:List Nat} (hn:σ.Nodup) (hl:∀ b ∈ σ,b < H.length) (R:Nat → Prop) (hR:∀ j,R j → j < σ.length) (hc:∀ j,R j → ∀ c ∈ refsO (HeapF H1 j),R c):Mv H1 R (backOf σ H.length) (putBack σ H.length H1 0 H):=by
 have hb:∀ j,j < σ.length → backOf σ H.length j = σ[j]?:=fun j hj=>by
  unfold backOf;rw [show Nat.blt j σ.length = true by rw [Nat.blt_eq];exact hj];rfl
 have hge:∀ j,¬ j < σ.length → backOf σ H.length j = some (H.length + (j - σ.length)):=fun j hj=>by
  unfold backOf
  have:Nat.blt j σ.length = false:=by rw [Bool.eq_false_iff];intro h;rw [Nat.blt_eq] at h;exact hj h
  rw [this];rfl
 refine ⟨?_,hc,fun j hj=>?_,fun j c hj hjc=>?_⟩
 ·intro x y c hx hy
  by_cases h1:x < σ.length<;>by_cases h2:y < σ.length
  ·rw [hb x h1] at hx;rw [hb y h2] at hy
   exact (List.getElem?_inj h1 hn).1 (hx.trans hy.symm)
  ·rw [hb x h1] at hx;rw [hge y h2] at hy
   have:=hl c (List.mem_of_getElem? hx)
   cases hy;omega
  ·rw [hge x h1] at hx;rw [hb y h2] at hy
   have:=hl c (List.mem_of_getElem? hy)
   cases hx;omega
  ·rw [hge x h1] at hx;rw [hge y h2] at hy
   cases hx;simp only [Option.some.injEq] at hy;omega
 ·rw [hb j (hR j hj)];exact ⟨_,List.getElem?_eq_getElem (hR j hj)⟩
 ·rw [hb j (hR j hj)] at hjc
  exact put_in hn hjc (hl c (List.mem_of_getElem? hjc))
theorem back_pi {σ:List Nat} {n b j:Nat} (hj:piOf σ b = some j):backOf σ n j = some b:=by
 have h:=idxOf_get hj
 have hl:=(List.getElem?_eq_some_iff.1 h).1
 unfold backOf
 rw [show Nat.blt j σ.length = true by rw [Nat.blt_eq];exact hl]
 exact h
theorem callLoc_rel (run:List AV → Heap → Option (AV × Heap)) (args:List AV) (H:Heap) (S:List Nat) (h1:∀ b ∈ refsL args,b ∈ S) (h2:∀ b ∈ S,∀ c ∈ refsO (HeapF H b),c ∈ S) (h3:∀ b ∈ S,b < H.length)
 (hn:(refsL args).length + (S.map fun b=>(refsO (HeapF H b)).length).sum < 1000000) :
 ∃ σ:List Nat,Reached H (refsL args) σ ∧ (∀ b ∈ σ,b < H.length) ∧ ∀ v H1,run (args.map (ren (piOf σ))) (smallH H σ (piOf σ)) = some (v,H1) →
  callLoc run args H = some (ren (backOf σ H.length) v,putBack σ H.length H1 0 H ++ (H1.drop σ.length).map (Option.map (renObj (backOf σ H.length))),σ):=by
 have hr:=reach_spec (H:=H) (init:=refsL args) S h1 h2 hn
 have hlt:∀ b ∈ reach H 1000000 (refsL args) [],b < H.length:=fun b hb=>h3 b (hr.least (·∈ S) h1 h2 b hb)
 refine ⟨_,hr,hlt,fun v H1 hrun=>?_⟩
 exact callLoc_eq run args H rfl (nodupB_of hr.nodup) (by rw [List.all_eq_true];intro b hb;simpa using hlt b hb) rfl rfl hrun
end Go.Ax
/- AxTab2: a table that a call has been given: heads of loops and calls that write it. -/
namespace Go.Ax
section
variable {H H1:Heap} {a b q:Nat} {ids:Nat → Nat} {w:Nat} {fo:List (List (BitVec 64))} {fr:Int}
mutual
theorem ren_below {m:Nat} {π:Nat → Option Nat} (hπ:∀ c,c < m → π c = some c):∀ (v:AV),(∀ c ∈ refs v,c < m) → ren π v = v
 | .ptr b i o,h=>by simp only [ren,hπ b (h b (by simp [refs]))]
 | .slice b o l c,h=>by simp only [ren,hπ b (h b (by simp [refs]))]
 | .map b,h=>by simp only [ren,hπ b (h b (by simp [refs]))]
 | .yfn b,h=>by simp only [ren,hπ b (h b (by simp [refs]))]
 | .func fn fs cs,h=>by
  simp only [refs,List.mem_append] at h
  simp only [ren,renL_below hπ fs (fun c hc=>h c (.inl hc)),renL_below hπ cs (fun c hc=>h c (.inr hc))]
 | .iface t x,h=>by simp only [refs] at h;simp only [ren,ren_below hπ x h]
 | .agg cs,h=>by simp only [refs] at h;simp only [ren,renL_below hπ cs h]
 | .tuple cs,h=>by simp only [refs] at h;simp only [ren,renL_below hπ cs h]
 | .junk,_|.bool _,_|.int ..,_|.str _,_|.nilptr,_|.nilslice,_|.nilmap,_|.nilfunc,_|.nilifc,_|.iptr _,_|.islice ..,_|.imap ..,_|.iset _,_=>rfl
theorem renL_below {m:Nat} {π:Nat → Option Nat} (hπ:∀ c,c < m → π c = some c):∀ (l:List AV),(∀ c ∈ refsL l,c < m) → renL π l = l
 | [],_=>rfl
 | v :: vs,h=>by
  simp only [refsL,List.mem_append] at h
  simp only [renL,ren_below hπ v (fun c hc=>h c (.inl hc)),renL_below hπ vs (fun c hc=>h c (.inr hc))]
end
theorem renM_below {m:Nat} {π:Nat → Option Nat} (hπ:∀ c,c < m → π c = some c) (l:List AV) (h:∀ c ∈ refsL l,c < m):l.map (ren π) = l:=by rw [← renL_eq];exact renL_below hπ l h
theorem renO_below {m:Nat} {π:Nat → Option Nat} (hπ:∀ c,c < m → π c = some c) (o:AObj) (h:∀ c ∈ refsO (some o),c < m):renObj π o = o:=by
 cases o with
 | row k rows=>
  simp only [renObj]
  congr 1
  conv=>rhs;rw [← List.map_id rows]
  refine List.map_congr_left fun r hr=>?_
  refine renM_below hπ r fun e he=>h e ?_
  simp only [refsO,List.mem_flatMap];exact ⟨r,hr,he⟩
 | map ks vs bs cl=>
  simp only [renObj]
  rw [renM_below hπ ks (fun e he=>h e (by simp [refsO,he])),renM_below hπ vs (fun e he=>h e (by simp [refsO,he]))]
 | siter s p=>rfl
 | uset ks=>rfl
 | miter ks vis arm=>rfl
 | yloop y Fy st=>
  simp only [renObj]
  congr 1
  conv=>rhs;rw [← List.map_id Fy]
  refine List.map_congr_left fun x hx=>?_
  rw [ren_below hπ x.2 fun c hc=>h c (refsF_mem hx hc)];rfl
theorem renF_below {m:Nat} {π:Nat → Option Nat} (hπ:∀ c,c < m → π c = some c):∀ F:Frm,(∀ c ∈ refsL (F.map (·.2)),c < m) → renF π F = F
 | [],_=>rfl
 | (s,v) :: F,h=>by
  simp only [List.map_cons,refsL,List.mem_append] at h
  have:=renM_below hπ [v] (by simp only [refsL,List.append_nil];exact fun c hc=>h c (.inl hc))
  simp only [List.map_cons,List.map_nil,List.cons.injEq,and_true] at this
  rw [renF_cons,this,renF_below hπ F (fun c hc=>h c (.inr hc))]
end
end Go.Ax
/- AxLow: a loop's head over blocks that all stood before the call and refer to nothing. -/
namespace Go.Ax
theorem heap_ext {H H1:Heap} (hl:H1.length = H.length) (h:∀ b,b < H.length → HeapF H1 b = HeapF H b):H1 = H:=by
 apply List.ext_getElem hl
 intro b h1 h2
 have:=h b h2
 unfold HeapF at this
 rw [List.getElem?_eq_getElem h1,List.getElem?_eq_getElem h2] at this
 exact this
end Go.Ax
/- AxMelt: calls over flat arguments that return a pointer to a block of their own. -/
namespace Go.Ax
@[go_sem] theorem finish_melt {v:AV} {H:Heap}:finish true 0 v H = melt 0 v H:=by rfl
@[go_sem] theorem melt_nilS {m:Nat} {H:Heap}:melt m .nilslice H = some (.nilslice,(H.take m).map (Option.map (renObj (piBelow m)))):=by rfl
end Go.Ax
/- AxCpy: copy and clear, ar rewrite rules. -/
namespace Go.Ax
section
variable {E:Env} {draw:Bool} {call:CallF} {F:Frm} {H:Heap} {h:FHeap}
end
section
variable {E:Env} {t:TypeId} {c:Bool} {x y:BitVec 64}
end
section
variable {E:Env} {h:FHeap} {t:TypeId}
end
end Go.Ax
/- AxFz: a loop that freezes at its end, as rewrite rules. -/
namespace Go.Ax
@[go_sem] theorem frzS_eq (m:Nat) (H:Heap) (v:AV):frzS m H v = (frzV m true (frzD (HeapF H) m 12) v).getD .junk:=by
 unfold frzS;cases frzV m true (frzD (HeapF H) m 12) v<;>rfl
@[go_sem] theorem frz_junk (m:Nat) (top:Bool) (d:AV → Option AV):frzV m top d .junk = some .junk:=by rfl
@[go_sem] theorem frzF_cons (m:Nat) (H:Heap) (s:Nat) (v:AV) (F:Frm):frzF m H ((s,v) :: F) = (s,frzS m H v) :: frzF m H F:=by rfl
@[go_sem] theorem frzF_nil (m:Nat) (H:Heap):frzF m H [] = []:=by rfl
@[go_sem] theorem frzH_0 (H:Heap):frzH 0 H = []:=by simp [frzH]
@[go_sem] theorem getD_some' {α:Type} (a b:α):(some a).getD b = a:=by rfl
@[go_sem] theorem getF_none (s:Nat):getF [] s = .junk:=by rfl
@[go_sem] theorem refs_junk:refs .junk = []:=by rfl
theorem fz_rw (m:Nat) (Q:Post) (e:AExit) (F:Frm) (H:Heap):fz m Q e F H = Q e (frzF m H F) (frzH m H):=by rfl
end Go.Ax
/- AxMl: a loop over a set of numbers: as a condition on its end. -/
namespace Go.Ax
section
variable {E:Env} {M:List Fact} {m N:Nat} {g:FuncId} {cur:Nat} {keep:List Nat} {id:Nat} {ops:Array Oper} {it nx:Nat} {ors:List Oper} {rest:Code}
end
end Go.Ax
/- AxSetS: sets of numbers, as rewrite rules. -/
namespace Go.Ax
section
variable {E:Env} {h:FHeap} {t:TypeId} {draw:Bool} {call:CallF} {F:Frm} {H:Heap}
/-! lookup -/
/-! update -/
/-! delete -/
/-! length -/
/-! ranging -/
/-! frames and heaps -/
variable (π:Nat → Option Nat)
end
end Go.Ax
/- AxSts: a slice of sets that are made and filled: one block of rows, a block for each set. -/
namespace Go.Ax
section
variable {m:Nat} {F:Frm} {H H1:Heap} {R:Nat → Prop} {π:Nat → Option Nat} {b:Nat} {ids:Nat → Nat} {cs:List (Option (List Int))}
end
end Go.Ax
/- AxTwc: a slice of rows that grows, and the row that is to come next: a block of rows, a block for each row that is not empty. -/
namespace Go.Ax
section
variable {H H1:Heap} {b:Nat} {ids:Nat → Nat} {fo:List (List (List AV))} {cur:List (List AV)}
end
end Go.Ax
/- AxLog: the look at a drawn region's log, the order first. -/
namespace Go.Ax
def logRow2 (all:List Oper) (j:Nat) (y:LogE):Nat → List LogE → Bool
 | _,[]=>true
 | 0,_ :: _=>false
 | i + 1,x :: rest=>(ordered all i j || !(x.clash y)) && logRow2 all j y i rest
def logOk2 (all:List Oper):Nat → List LogE → Bool
 | _,[]=>true
 | 0,_ :: _=>false
 | j + 1,y :: rest=>logRow2 all j y j rest && logOk2 all j rest
theorem logRow2_eq (all:List Oper) (j:Nat) (y:LogE):∀ (i:Nat) (l:List LogE),logRow2 all j y i l = logOk.logRow all j y i l
 | _,[]=>by unfold logRow2 logOk.logRow;rfl
 | 0,_ :: _=>by unfold logRow2 logOk.logRow;rfl
 | i + 1,x :: rest=>by unfold logRow2 logOk.logRow;rw [logRow2_eq all j y i rest,Bool.or_comm]
theorem logOk2_eq (all:List Oper):∀ (i:Nat) (l:List LogE),logOk2 all i l = logOk all i l
 | _,[]=>by unfold logOk2 logOk;rfl
 | 0,_ :: _=>by unfold logOk2 logOk;rfl
 | j + 1,y :: rest=>by unfold logOk2 logOk;rw [logOk2_eq all j rest,logRow2_eq]
theorem xs2 {F F1:Frm} {H H1:Heap} {Q:Post} {E:Env} {M:List Fact} {m N:Nat} {g:FuncId} {cur:Nat} {id ops draw} {log:List LogE} (h:runD E draw N (sem E M) ops.toList ops.toList [] F H = some (F1,H1,log)) (hl:(!draw || logOk2 ops.toList log.length log) = true) (hq:Q .normal F1 H1):Wp (cx E M m N g cur) (.region id ops draw) F H Q:=
 xs h (by rw [← logOk2_eq];exact hl) hq
def RowP (all:List Oper) (j:Nat) (y:LogE):List LogE → Prop
 | []=>True
 | x :: rest=>(ordered all rest.length j = true ∨ x.clash y = false) ∧ RowP all j y rest
def LogP (all:List Oper):List LogE → Prop
 | []=>True
 | y :: rest=>RowP all rest.length y rest ∧ LogP all rest
theorem logP_nil {all:List Oper}:LogP all []:=by unfold LogP;trivial
theorem logP_cons {all:List Oper} {y:LogE} {rest:List LogE} (h1:RowP all rest.length y rest) (h2:LogP all rest):LogP all (y :: rest):=by unfold LogP;exact ⟨h1,h2⟩
theorem rowP_nil {all:List Oper} {j:Nat} {y:LogE}:RowP all j y []:=by unfold RowP;trivial
theorem rowP_ord {all:List Oper} {j:Nat} {y x:LogE} {rest:List LogE} (h1:ordered all rest.length j = true) (h2:RowP all j y rest):RowP all j y (x :: rest):=by unfold RowP;exact ⟨.inl h1,h2⟩
theorem rowP_dis {all:List Oper} {j:Nat} {y x:LogE} {rest:List LogE} (h1:x.clash y = false) (h2:RowP all j y rest):RowP all j y (x :: rest):=by unfold RowP;exact ⟨.inr h1,h2⟩
theorem rowP_ok {all:List Oper} {j:Nat} {y:LogE}:∀ {l:List LogE},RowP all j y l → logRow2 all j y l.length l = true
 | [],_=>by unfold logRow2;rfl
 | x :: rest,h=>by
  rw [List.length_cons]
  unfold logRow2
  rw [rowP_ok h.2,Bool.and_true]
  rcases h.1 with h1|h1
  ·rw [h1,Bool.true_or]
  ·rw [h1];simp
theorem logP_ok {all:List Oper}:∀ {l:List LogE},LogP all l → logOk2 all l.length l = true
 | [],_=>by unfold logOk2;rfl
 | y :: rest,h=>by
  rw [List.length_cons]
  unfold logOk2
  rw [logP_ok h.2,Bool.and_true]
  exact rowP_ok h.1
theorem xs3 {F F1:Frm} {H H1:Heap} {Q:Post} {E:Env} {M:List Fact} {m N:Nat} {g:FuncId} {cur:Nat} {id ops draw} {log:List LogE} (h:runD E draw N (sem E M) ops.toList ops.toList [] F H = some (F1,H1,log)) (hl:LogP ops.toList log) (hq:Q .normal F1 H1):Wp (cx E M m N g cur) (.region id ops draw) F H Q:=
 xs2 h (by rw [logP_ok hl];simp) hq
theorem clash_dis {x y:LogE} (h1:∀ a ∈ x.keys,a ∉ y.needs) (h2:∀ a ∈ x.keys,a ∉ y.keys) (h3:∀ a ∈ x.needs,a ∉ y.keys):x.clash y = false:=by
 have hm:∀ l k:List Nat,(∀ a ∈ l,a ∉ k) → meetsB l k = false:=by
  intro l k h
  unfold meetsB
  rw [List.any_eq_false]
  intro a ha
  have:=h a ha
  rw [Bool.not_eq_true]
  cases hc:containsN k a with
  | false=>rfl
  | true=>exact absurd (containsN_iff.1 hc) this
 unfold LogE.clash
 rw [hm _ _ h1,hm _ _ h2,hm _ _ h3];rfl
end Go.Ax
namespace Go.Ax
end Go.Ax
