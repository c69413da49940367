/- AxTab: a table of rows of words in blocks, wherever they lie; heads of loops and calls over it. -/
import Derived.Test.YtllalbnibhofiaaGreatDoorAxE
set_option linter.unusedSimpArgs false
set_option linter.unusedVariables false
namespace Go.Ax
def w64R (w:BitVec 64):List AV:=[u64 w]
structure Mv (H:Heap) (R:Nat → Prop) (π:Nat → Option Nat) (H1:Heap):Prop where
 inj:∀ a b c,π a = some c → π b = some c → a = b
 closed:∀ b,R b → ∀ c ∈ refsO (HeapF H b),R c
 here:∀ b,R b → ∃ c,π b = some c
 heap:∀ b c,R b → π b = some c → HeapF H1 c = (HeapF H b).map (renObj π)
theorem Gc.mv {m:Nat} {F:Frm} {H H1:Heap} {R:Nat → Prop} {π:Nat → Option Nat} (g:Gc m F H R π H1):Mv H R π H1:=⟨g.inj,g.closed,g.here,fun b c _ h=>g.heap b c h⟩
structure Tbl (H:Heap) (a b q:Nat) (ids:Nat → Nat) (w:Nat) (fo:List (List (BitVec 64))) (from':Int):Prop where
 out:HeapF H a = some (.row 1 [[.slice b 0 fo.length (some fo.length)]])
 top:HeapF H b = some (.row 1 ((List.range fo.length).map fun j=>[.slice (ids j) 0 w (some w)]))
 sub:∀ (j:Nat) (f:List (BitVec 64)),fo[j]? = some f → HeapF H (ids j) = some (.row 1 (f.map w64R)) ∧ ids j ≠ a ∧ ids j ≠ b ∧ ids j ≠ q ∧ f.length = w
 frm:HeapF H q = some (.row 1 [[.int .i64 from']])
 ab:a ≠ b
 aq:a ≠ q
 bq:b ≠ q
 inj:∀ i j,i < fo.length → j < fo.length → ids i = ids j → i = j
theorem flatW64 (l:List (BitVec 64)):FlatR (l.map w64R):=FlatR.map fun _=>rfl
section
variable {H H1:Heap} {R:Nat → Prop} {π:Nat → Option Nat} {a b q:Nat} {ids:Nat → Nat} {w:Nat} {fo:List (List (BitVec 64))} {fr:Int}
theorem Tbl.top_refs (h:Tbl H a b q ids w fo fr) {c:Nat}:c ∈ refsO (HeapF H b) ↔ ∃ j,j < fo.length ∧ c = ids j:=by
 rw [h.top]
 show c ∈ ((List.range fo.length).map fun j=>[AV.slice (ids j) 0 w (some w)]).flatMap refsL ↔ _
 simp only [List.mem_flatMap,List.mem_map,List.mem_range]
 constructor
 ·rintro ⟨r,⟨j,hj,rfl⟩,hc⟩
  exact ⟨j,hj,by simpa [refsL,refs] using hc⟩
 ·rintro ⟨j,hj,rfl⟩
  exact ⟨_,⟨j,hj,rfl⟩,by simp [refsL,refs]⟩
theorem Tbl.mv (h:Tbl H a b q ids w fo fr) (hm:Mv H R π H1) (ha:R a) (hq:R q):∃ a' b' q' ids',π a = some a' ∧ π b = some b' ∧ π q = some q' ∧ (∀ j,j < fo.length → π (ids j) = some (ids' j)) ∧ Tbl H1 a' b' q' ids' w fo fr:=by
 have hb:R b:=hm.closed a ha b (by rw [h.out];simp [refsO,refsL,refs])
 have hid:∀ j,j < fo.length → R (ids j):=fun j hj=>hm.closed b hb _ (h.top_refs.2 ⟨j,hj,rfl⟩)
 obtain ⟨a',ea⟩:=hm.here a ha
 obtain ⟨b',eb⟩:=hm.here b hb
 obtain ⟨q',eq⟩:=hm.here q hq
 have ei:∀ j,j < fo.length → π (ids j) = some ((π (ids j)).getD 0):=fun j hj=>by obtain ⟨c,hc⟩:=hm.here _ (hid j hj);rw [hc];rfl
 refine ⟨a',b',q',fun j=>(π (ids j)).getD 0,ea,eb,eq,ei,?_,?_,?_,?_,?_,?_,?_,?_⟩
 ·rw [hm.heap a a' ha ea,h.out]
  simp only [Option.map_some,renObj,List.map_cons,List.map_nil,Ax.ren,eb]
 ·rw [hm.heap b b' hb eb,h.top]
  simp only [Option.map_some,renObj,List.map_map]
  congr 2
  refine List.map_congr_left fun j hj=>?_
  have:=ei j (by simpa using hj)
  simp only [Function.comp,List.map_cons,List.map_nil,Ax.ren]
  rw [this];rfl
 ·intro j f hf
  obtain ⟨g1,g2,g3,g4,g5⟩:=h.sub j f hf
  have hj:j < fo.length:=(List.getElem?_eq_some_iff.1 hf).1
  have e:=ei j hj
  refine ⟨?_,?_,?_,?_,g5⟩
  ·rw [hm.heap _ _ (hid j hj) e,g1]
   simp only [Option.map_some,renObj,renR_flat π (flatW64 f)]
  ·intro he;rw [he] at e;exact g2 (hm.inj _ _ _ e ea)
  ·intro he;rw [he] at e;exact g3 (hm.inj _ _ _ e eb)
  ·intro he;rw [he] at e;exact g4 (hm.inj _ _ _ e eq)
 ·rw [hm.heap q q' hq eq,h.frm];rfl
 ·intro e;subst e;exact h.ab (hm.inj _ _ _ ea eb)
 ·intro e;subst e;exact h.aq (hm.inj _ _ _ ea eq)
 ·intro e;subst e;exact h.bq (hm.inj _ _ _ eb eq)
 ·intro i j hi hj e
  have e1:=ei i hi
  have e2:=ei j hj
  rw [e] at e1
  exact h.inj i j hi hj (hm.inj _ _ _ e1 e2)
theorem Tbl.put (h:Tbl H a b q ids w fo fr) {i k:Nat} {f:List (BitVec 64)} {x:BitVec 64} (hf:fo[i]? = some f):Tbl (H.set (ids i) (some (.row 1 ((f.set k x).map w64R)))) a b q ids w (fo.set i (f.set k x)) fr:=by
 obtain ⟨g1,g2,g3,g4,g5⟩:=h.sub i f hf
 have hi:i < fo.length:=(List.getElem?_eq_some_iff.1 hf).1
 have hil:=heapF_lt g1
 refine ⟨?_,?_,?_,?_,h.ab,h.aq,h.bq,?_⟩
 ·rw [heapF_set_ne g2,h.out,List.length_set]
 ·rw [heapF_set_ne g3,h.top,List.length_set]
 ·intro j f' hf'
  rw [List.getElem?_set] at hf'
  by_cases hij:i = j
  ·subst hij
   simp only [if_true,hi,Option.some.injEq] at hf'
   subst hf'
   exact ⟨heapF_set_eq hil,g2,g3,g4,by rw [List.length_set];exact g5⟩
  ·rw [if_neg hij] at hf'
   obtain ⟨k1,k2,k3,k4,k5⟩:=h.sub j f' hf'
   refine ⟨?_,k2,k3,k4,k5⟩
   rw [heapF_set_ne,k1]
   intro e
   exact hij (h.inj i j hi (List.getElem?_eq_some_iff.1 hf').1 e)
 ·rw [heapF_set_ne g4,h.frm]
 ·intro i' j hi' hj;rw [List.length_set] at hi' hj;exact h.inj i' j hi' hj
theorem Tbl.same (h:Tbl H a b q ids w fo fr) (h1:∀ c,(c = a ∨ c = b ∨ c = q ∨ ∃ j,j < fo.length ∧ c = ids j) → HeapF H1 c = HeapF H c):Tbl H1 a b q ids w fo fr:=
 ⟨by rw [h1 a (.inl rfl),h.out],by rw [h1 b (.inr (.inl rfl)),h.top],fun j f hf=>by
  obtain ⟨g1,g2⟩:=h.sub j f hf
  exact ⟨by rw [h1 (ids j) (.inr (.inr (.inr ⟨j,(List.getElem?_eq_some_iff.1 hf).1,rfl⟩))),g1],g2⟩,by rw [h1 q (.inr (.inr (.inl rfl))),h.frm],h.ab,h.aq,h.bq,h.inj⟩
theorem Tbl.more {L:Heap} (h:Tbl H a b q ids w fo fr):Tbl (H ++ L) a b q ids w fo fr:=by
 refine h.same fun c hc=>heapF_lo (eq_true ?_)
 rcases hc with rfl|rfl|rfl|⟨j,hj,rfl⟩
 ·exact heapF_lt h.out
 ·exact heapF_lt h.top
 ·exact heapF_lt h.frm
 ·obtain ⟨f,hf⟩:∃ f,fo[j]? = some f:=⟨_,List.getElem?_eq_getElem hj⟩
  exact heapF_lt (h.sub j f hf).1
def Tbl.blocks (a b q:Nat) (ids:Nat → Nat) (n:Nat):List Nat:=a :: b :: q :: (List.range n).map ids
theorem Tbl.mem_blocks {c n:Nat}:c ∈ Tbl.blocks a b q ids n ↔ c = a ∨ c = b ∨ c = q ∨ ∃ j,j < n ∧ c = ids j:=by
 unfold Tbl.blocks
 simp only [List.mem_cons,List.mem_map,List.mem_range]
 constructor
 ·rintro (h|h|h|⟨j,hj,rfl⟩)
  ·exact .inl h
  ·exact .inr (.inl h)
  ·exact .inr (.inr (.inl h))
  ·exact .inr (.inr (.inr ⟨j,hj,rfl⟩))
 ·rintro (h|h|h|⟨j,hj,rfl⟩)
  ·exact .inl h
  ·exact .inr (.inl h)
  ·exact .inr (.inr (.inl h))
  ·exact .inr (.inr (.inr ⟨j,hj,rfl⟩))
theorem Tbl.closed (h:Tbl H a b q ids w fo fr):∀ c ∈ Tbl.blocks a b q ids fo.length,∀ d ∈ refsO (HeapF H c),d ∈ Tbl.blocks a b q ids fo.length:=by
 intro c hc d hd
 rw [Tbl.mem_blocks] at hc ⊢
 rcases hc with rfl|rfl|rfl|⟨j,hj,rfl⟩
 ·rw [h.out] at hd
  simp [refsO,refsL,refs] at hd
  exact .inr (.inl hd)
 ·obtain ⟨j,hj,rfl⟩:=h.top_refs.1 hd
  exact .inr (.inr (.inr ⟨j,hj,rfl⟩))
 ·rw [h.frm] at hd
  simp [refsO,refsL,refs] at hd
 ·obtain ⟨f,hf⟩:∃ f,fo[j]? = some f:=⟨_,List.getElem?_eq_getElem hj⟩
  rw [(h.sub j f hf).1,refsO_flat (flatW64 f)] at hd
  simp at hd
theorem Tbl.cost (h:Tbl H a b q ids w fo fr):((Tbl.blocks a b q ids fo.length).map fun c=>(refsO (HeapF H c)).length).sum ≤ fo.length + 1:=by
 unfold Tbl.blocks
 have e1:(refsO (HeapF H a)).length = 1:=by rw [h.out];rfl
 have e2:(refsO (HeapF H q)).length = 0:=by rw [h.frm];rfl
 have e3:(refsO (HeapF H b)).length = fo.length:=by
  rw [h.top]
  have hlen:∀ l:List Nat,((l.map fun j=>[AV.slice (ids j) 0 w (some w)]).flatMap refsL).length = l.length:=by
   intro l;induction l with
   | nil=>rfl
   | cons x l ih=>simp only [List.map_cons,List.flatMap_cons,List.length_append,ih,List.length_cons];simp [refsL,refs];omega
  have:=hlen (List.range fo.length)
  rw [List.length_range] at this
  exact this
 have e4:(((List.range fo.length).map ids).map fun c=>(refsO (HeapF H c)).length).sum = 0:=by
  refine sum_zero _ ?_
  intro c hc
  obtain ⟨j,hj,rfl⟩:=List.mem_map.1 hc
  obtain ⟨f,hf⟩:∃ f,fo[j]? = some f:=⟨_,List.getElem?_eq_getElem (by simpa using hj)⟩
  rw [(h.sub j f hf).1];exact refsO_flat (flatW64 f)
 simp only [List.map_cons,List.sum_cons,e1,e2,e3,e4]
 omega
end
/-! ### calls, wherever the blocks lie -/
theorem small_get {H:Heap} {σ:List Nat} (hn:σ.Nodup) {b:Nat} (hb:b ∈ σ):∃ j,piOf σ b = some j ∧ σ[j]? = some b ∧ HeapF (smallH H σ (piOf σ)) j = (HeapF H b).map (renObj (piOf σ)):=by
 obtain ⟨j,hj⟩:=List.mem_iff_getElem?.1 hb
 refine ⟨j,idxOf_of_get hn hj,hj,?_⟩
 unfold smallH HeapF
 rw [List.getElem?_map,hj];rfl
theorem put_in {H H1:Heap} {σ:List Nat} {n b j:Nat} (hn:σ.Nodup) (hj:σ[j]? = some b) (hb:b < H.length):HeapF (putBack σ n H1 0 H) b = (HeapF H1 j).map (renObj (backOf σ n)):=by
 unfold HeapF
 rw [putBack_get2,List.getElem?_eq_getElem hb,Nat.zero_add,idxOf_of_get hn hj]
 rfl
theorem put_out {H H1:Heap} {σ:List Nat} {n b:Nat} (hb:b ∉ σ):HeapF (putBack σ n H1 0 H) b = HeapF H b:=by
 unfold HeapF
 rw [putBack_get2,Nat.zero_add]
 have:σ.idxOf? b = none:=by
  cases h:σ.idxOf? b with
  | none=>rfl
  | some j=>exact absurd (List.mem_of_getElem? (idxOf_get h)) hb
 rw [this]
 cases H[b]?<;>rfl
theorem putBack_len {σ:List Nat} {n:Nat} {H1:Heap}:∀ (s:Nat) (H:Heap),(putBack σ n H1 s H).length = H.length
 | _,[]=>rfl
 | s,o :: H=>by simp [putBack,putBack_len (s + 1) H]
theorem mv_small {H:Heap} {init σ:List Nat} (hr:Reached H init σ):Mv H (·∈ σ) (piOf σ) (smallH H σ (piOf σ)):=by
 refine ⟨?_,hr.closed,fun b hb=>?_,fun b c hb hc=>?_⟩
 ·intro a b c ha hb
  have h1:=idxOf_get ha
  have h2:=idxOf_get hb
  rw [h1] at h2;exact Option.some.inj h2
 ·obtain ⟨j,hj,_⟩:=small_get (H:=H) hr.nodup hb;exact ⟨j,hj⟩
 ·obtain ⟨j,hj,_,e⟩:=small_get (H:=H) hr.nodup hb
  rw [hj] at hc;cases hc;exact e
theorem mv_back {H H1:Heap} {σ:List Nat} (hn:σ.Nodup) (hl:∀ b ∈ σ,b < H.length) (R:Nat → Prop) (hR:∀ j,R j → j < σ.length) (hc:∀ j,R j → ∀ c ∈ refsO (HeapF H1 j),R c):Mv H1 R (backOf σ H.length) (putBack σ H.length H1 0 H):=by
 have hb:∀ j,j < σ.length → backOf σ H.length j = σ[j]?:=fun j hj=>by
  unfold backOf;rw [show Nat.blt j σ.length = true by rw [Nat.blt_eq];exact hj];rfl
 have hge:∀ j,¬ j < σ.length → backOf σ H.length j = some (H.length + (j - σ.length)):=fun j hj=>by
  unfold backOf
  have:Nat.blt j σ.length = false:=by rw [Bool.eq_false_iff];intro h;rw [Nat.blt_eq] at h;exact hj h
  rw [this];rfl
 refine ⟨?_,hc,fun j hj=>?_,fun j c hj hjc=>?_⟩
 ·intro x y c hx hy
  by_cases h1:x < σ.length<;>by_cases h2:y < σ.length
  ·rw [hb x h1] at hx;rw [hb y h2] at hy
   exact (List.getElem?_inj h1 hn).1 (hx.trans hy.symm)
  ·rw [hb x h1] at hx;rw [hge y h2] at hy
   have:=hl c (List.mem_of_getElem? hx)
   cases hy;omega
  ·rw [hge x h1] at hx;rw [hb y h2] at hy
   have:=hl c (List.mem_of_getElem? hy)
   cases hx;omega
  ·rw [hge x h1] at hx;rw [hge y h2] at hy
   cases hx;simp only [Option.some.injEq] at hy;omega
 ·rw [hb j (hR j hj)];exact ⟨_,List.getElem?_eq_getElem (hR j hj)⟩
 ·rw [hb j (hR j hj)] at hjc
  exact put_in hn hjc (hl c (List.mem_of_getElem? hjc))
theorem back_pi {σ:List Nat} {n b j:Nat} (hj:piOf σ b = some j):backOf σ n j = some b:=by
 have h:=idxOf_get hj
 have hl:=(List.getElem?_eq_some_iff.1 h).1
 unfold backOf
 rw [show Nat.blt j σ.length = true by rw [Nat.blt_eq];exact hl]
 exact h
theorem callLoc_rel (run:List AV → Heap → Option (AV × Heap)) (args:List AV) (H:Heap) (S:List Nat) (h1:∀ b ∈ refsL args,b ∈ S) (h2:∀ b ∈ S,∀ c ∈ refsO (HeapF H b),c ∈ S) (h3:∀ b ∈ S,b < H.length)
 (hn:(refsL args).length + (S.map fun b=>(refsO (HeapF H b)).length).sum < 1000000) :
 ∃ σ:List Nat,Reached H (refsL args) σ ∧ (∀ b ∈ σ,b < H.length) ∧ ∀ v H1,run (args.map (ren (piOf σ))) (smallH H σ (piOf σ)) = some (v,H1) →
  callLoc run args H = some (ren (backOf σ H.length) v,putBack σ H.length H1 0 H ++ (H1.drop σ.length).map (Option.map (renObj (backOf σ H.length))),σ):=by
 have hr:=reach_spec (H:=H) (init:=refsL args) S h1 h2 hn
 have hlt:∀ b ∈ reach H 1000000 (refsL args) [],b < H.length:=fun b hb=>h3 b (hr.least (·∈ S) h1 h2 b hb)
 refine ⟨_,hr,hlt,fun v H1 hrun=>?_⟩
 exact callLoc_eq run args H rfl (nodupB_of hr.nodup) (by rw [List.all_eq_true];intro b hb;simpa using hlt b hb) rfl rfl hrun
end Go.Ax
/- AxTab2: a table that a call has been given: heads of loops and calls that write it. -/
namespace Go.Ax
section
variable {H H1:Heap} {a b q:Nat} {ids:Nat → Nat} {w:Nat} {fo:List (List (BitVec 64))} {fr:Int}
theorem Tbl.congr {ids':Nat → Nat} (h:Tbl H a b q ids' w fo fr) (he:∀ j,j < fo.length → ids' j = ids j):Tbl H a b q ids w fo fr:=by
 refine ⟨h.out,?_,?_,h.frm,h.ab,h.aq,h.bq,?_⟩
 ·rw [h.top];congr 2
  refine List.map_congr_left fun j hj=>?_
  rw [he j (by simpa using hj)]
 ·intro j f hf
  have:=h.sub j f hf
  rwa [he j (List.getElem?_eq_some_iff.1 hf).1] at this
 ·intro i j hi hj e
  exact h.inj i j hi hj (by rw [he i hi,he j hj];exact e)
theorem Tbl.stay {R:Nat → Prop} {π:Nat → Option Nat} (h:Tbl H a b q ids w fo fr) (hm:Mv H R π H1) (ha:R a) (hq:R q) (hπ:∀ c ∈ Tbl.blocks a b q ids fo.length,π c = some c):Tbl H1 a b q ids w fo fr:=by
 obtain ⟨a',b',q',ids',e1,e2,e3,e4,ht⟩:=h.mv hm ha hq
 rw [hπ a (Tbl.mem_blocks.2 (.inl rfl))] at e1
 rw [hπ b (Tbl.mem_blocks.2 (.inr (.inl rfl)))] at e2
 rw [hπ q (Tbl.mem_blocks.2 (.inr (.inr (.inl rfl))))] at e3
 cases e1;cases e2;cases e3
 refine ht.congr fun j hj=>?_
 have:=e4 j hj
 rw [hπ (ids j) (Tbl.mem_blocks.2 (.inr (.inr (.inr ⟨j,hj,rfl⟩))))] at this
 exact (Option.some.inj this).symm
structure TSt (H:Heap) (m a b q:Nat) (ids:Nat → Nat) (w:Nat) (fo:List (List (BitVec 64))) (fr:Int):Prop where
 tbl:Tbl H a b q ids w fo fr
 lowf:∀ c,c < m → c ∈ Tbl.blocks a b q ids fo.length ∨ refsO (HeapF H c) = []
 bnd:∀ c ∈ Tbl.blocks a b q ids fo.length,c < m
mutual
theorem ren_below {m:Nat} {π:Nat → Option Nat} (hπ:∀ c,c < m → π c = some c):∀ (v:AV),(∀ c ∈ refs v,c < m) → ren π v = v
 | .ptr b i o,h=>by simp only [ren,hπ b (h b (by simp [refs]))]
 | .slice b o l c,h=>by simp only [ren,hπ b (h b (by simp [refs]))]
 | .map b,h=>by simp only [ren,hπ b (h b (by simp [refs]))]
 | .func fn fs cs,h=>by
  simp only [refs,List.mem_append] at h
  simp only [ren,renL_below hπ fs (fun c hc=>h c (.inl hc)),renL_below hπ cs (fun c hc=>h c (.inr hc))]
 | .iface t x,h=>by simp only [refs] at h;simp only [ren,ren_below hπ x h]
 | .agg cs,h=>by simp only [refs] at h;simp only [ren,renL_below hπ cs h]
 | .tuple cs,h=>by simp only [refs] at h;simp only [ren,renL_below hπ cs h]
 | .junk,_|.bool _,_|.int ..,_|.str _,_|.nilptr,_|.nilslice,_|.nilmap,_|.nilfunc,_|.nilifc,_|.iptr _,_|.islice ..,_|.imap ..,_=>rfl
theorem renL_below {m:Nat} {π:Nat → Option Nat} (hπ:∀ c,c < m → π c = some c):∀ (l:List AV),(∀ c ∈ refsL l,c < m) → renL π l = l
 | [],_=>rfl
 | v :: vs,h=>by
  simp only [refsL,List.mem_append] at h
  simp only [renL,ren_below hπ v (fun c hc=>h c (.inl hc)),renL_below hπ vs (fun c hc=>h c (.inr hc))]
end
theorem renM_below {m:Nat} {π:Nat → Option Nat} (hπ:∀ c,c < m → π c = some c) (l:List AV) (h:∀ c ∈ refsL l,c < m):l.map (ren π) = l:=by rw [← renL_eq];exact renL_below hπ l h
theorem renO_below {m:Nat} {π:Nat → Option Nat} (hπ:∀ c,c < m → π c = some c) (o:AObj) (h:∀ c ∈ refsO (some o),c < m):renObj π o = o:=by
 cases o with
 | row k rows=>
  simp only [renObj]
  congr 1
  conv=>rhs;rw [← List.map_id rows]
  refine List.map_congr_left fun r hr=>?_
  refine renM_below hπ r fun e he=>h e ?_
  simp only [refsO,List.mem_flatMap];exact ⟨r,hr,he⟩
 | map ks vs bs cl=>
  simp only [renObj]
  rw [renM_below hπ ks (fun e he=>h e (by simp [refsO,he])),renM_below hπ vs (fun e he=>h e (by simp [refsO,he]))]
 | siter s p=>rfl
theorem sum_sub {f:Nat → Nat}:∀ {l S:List Nat},l.Nodup → (∀ c ∈ l,c ∈ S ∨ f c = 0) → (l.map f).sum ≤ (S.map f).sum
 | [],S,_,_=>by simp
 | c :: l,S,hn,h=>by
  rw [List.nodup_cons] at hn
  rcases h c (by simp) with hc|hc
  ·rw [sum_erase hc]
   have:=sum_sub (f:=f) (l:=l) (S:=S.erase c) hn.2 (fun d hd=>by
    rcases h d (by simp [hd]) with h1|h1
    ·exact .inl ((List.mem_erase_of_ne (fun e=>hn.1 (by rw [← e];exact hd))).2 h1)
    ·exact .inr h1)
   simp only [List.map_cons,List.sum_cons];omega
  ·have:=sum_sub (f:=f) (l:=l) (S:=S) hn.2 (fun d hd=>h d (by simp [hd]))
   simp only [List.map_cons,List.sum_cons,hc];omega
theorem low_len (H:Heap):∀ m,m ≤ H.length → ((H.take m).flatMap refsO).length = ((List.range m).map fun c=>(refsO (HeapF H c)).length).sum
 | 0,_=>rfl
 | m + 1,h=>by
  have ih:=low_len H m (by omega)
  rw [List.range_succ,List.map_append,List.sum_append,← ih,List.take_add_one,List.flatMap_append,List.length_append]
  congr 1
  rw [List.getElem?_eq_getElem (by omega)]
  simp [HeapF,List.getElem?_eq_getElem (show m < H.length by omega)]
theorem renF_below {m:Nat} {π:Nat → Option Nat} (hπ:∀ c,c < m → π c = some c):∀ F:Frm,(∀ c ∈ refsL (F.map (·.2)),c < m) → renF π F = F
 | [],_=>rfl
 | (s,v) :: F,h=>by
  simp only [List.map_cons,refsL,List.mem_append] at h
  have:=renM_below hπ [v] (by simp only [refsL,List.append_nil];exact fun c hc=>h c (.inl hc))
  simp only [List.map_cons,List.map_nil,List.cons.injEq,and_true] at this
  rw [renF_cons,this,renF_below hπ F (fun c hc=>h c (.inr hc))]
theorem TSt.low {m:Nat} (h:TSt H m a b q ids w fo fr):∀ c,c < m → ∀ d ∈ refsO (HeapF H c),d ∈ Tbl.blocks a b q ids fo.length:=by
 intro c hc d hd
 rcases h.lowf c hc with h1|h1
 ·exact h.tbl.closed c h1 d hd
 ·rw [h1] at hd;simp at hd
theorem TSt.head {m:Nat} {keep:List Nat} {F:Frm} {xb:AObj} (h:TSt H m a b q ids w fo fr) (hx:HeapF H m = some xb) (hxf:refsO (some xb) = []) (hxo:FlatO (some xb)) (hn:fo.length ≤ 1000)
 (hF:∀ c ∈ refsL ((keepF keep F).map (·.2)),c < m + 1) (hFl:(refsL ((keepF keep F).map (·.2))).length ≤ 20) (hFm:m ∈ refsL ((keepF keep F).map (·.2))) (hFa:a ∈ refsL ((keepF keep F).map (·.2))) (hFq:q ∈ refsL ((keepF keep F).map (·.2))) (hFlow:∀ c ∈ refsL ((keepF keep F).map (·.2)),c = m ∨ c ∈ Tbl.blocks a b q ids fo.length ∨ refsO (HeapF H c) = []) :
 ∃ H1,gcD m keep F H = some (keepF keep F,H1) ∧ TSt H1 m a b q ids w fo fr ∧ HeapF H1 m = some xb ∧ H1.length = m + 1 ∧ ∀ c o,c < m → HeapF H c = some o → FlatO (some o) → HeapF H1 c = some o:=by
 have hml:=heapF_lt hx
 obtain ⟨R,π,H1,g1,g2,g3⟩:=gc_gen (m:=m) (keep:=keep) (F:=F) (H:=H) (by omega) (m :: (refsL ((keepF keep F).map (·.2)) ++ Tbl.blocks a b q ids fo.length)) (fun c hc=>by simp [hc]) (fun c hc d hd=>by have:=h.low c hc d hd;simp [this]) (by
  intro c hc d hd
  simp only [List.mem_cons,List.mem_append] at hc
  have hbl:c ∈ Tbl.blocks a b q ids fo.length → d ∈ m :: (refsL ((keepF keep F).map (·.2)) ++ Tbl.blocks a b q ids fo.length):=fun hc=>by have:=h.tbl.closed c hc d hd;simp [this]
  rcases hc with rfl|hc|hc
  ·rw [hx,hxf] at hd;simp at hd
  ·rcases hFlow c hc with rfl|hc|hc
   ·rw [hx,hxf] at hd;simp at hd
   ·exact hbl hc
   ·rw [hc] at hd;simp at hd
  ·exact hbl hc) (by
  have hc1:=h.tbl.cost
  have hc0:=low_len H m (by omega)
  have hc3:=sum_sub (f:=fun c=>(refsO (HeapF H c)).length) (l:=List.range m) (S:=Tbl.blocks a b q ids fo.length) List.nodup_range (fun c hc=>(h.lowf c (by simpa using hc)).imp id (fun e=>by rw [e];rfl))
  have hc2:∀ l:List Nat,(∀ c ∈ l,c = m ∨ c ∈ Tbl.blocks a b q ids fo.length ∨ refsO (HeapF H c) = []) → (l.map fun c=>(refsO (HeapF H c)).length).sum ≤ l.length * 1001:=by
   intro l
   induction l with
   | nil=>intro _;simp
   | cons c l ih=>
    intro hl
    have h1:=ih (fun c hc=>hl c (by simp [hc]))
    have h2:(refsO (HeapF H c)).length ≤ 1001:=by
     rcases hl c (by simp) with rfl|hc|hc
     ·rw [hx,hxf];simp
     ·have:=sum_erase (f:=fun c=>(refsO (HeapF H c)).length) hc
      omega
     ·rw [hc];simp
    simp only [List.map_cons,List.sum_cons,List.length_cons];omega
  have hc4:=hc2 _ hFlow
  simp only [List.map_cons,List.sum_cons,List.map_append,List.sum_append,hx,hxf,List.length_nil]
  omega)
 have hRm:R m:=g2.refs m hFm
 obtain ⟨c,hc⟩:=g2.here m hRm
 have hcx:HeapF H1 c = some xb:=by rw [g2.heap m c hc,hx];exact hxo π
 have hlen1:H1.length ≤ m + 1:=by
  refine g2.len [m] fun d hd hmd=>?_
  have:=g2.least (fun d=>d ≤ m) (fun d hd=>by have:=hF d hd;omega) (fun c hc d hd=>by have:=h.bnd d (h.low c hc d hd);omega) (fun c hc d hd=>by
   rcases Nat.lt_or_eq_of_le hc with hlt|rfl
   ·have:=h.bnd d (h.low c hlt d hd);omega
   ·rw [hx,hxf] at hd;simp at hd) d hd
  simp;omega
 have hcm:c = m:=by
  have h1:=heapF_lt hcx
  by_cases h2:c < m
  ·have:=g2.inj _ _ _ hc (g2.low c h2);omega
  ·omega
 subst hcm
 have hπ:∀ d,d < c + 1 → π d = some d:=fun d hd=>by
  by_cases h2:d < c
  ·exact g2.low d h2
  ·have:d = c:=by omega
   rw [this];exact hc
 have hRl:∀ d,d ∈ Tbl.blocks a b q ids fo.length → π d = some d:=fun d hd=>g2.low d (h.bnd d hd)
 refine ⟨H1,?_,⟨?_,?_,h.bnd⟩,hcx,?_,?_⟩
 ·rw [g1,renF_below hπ _ hF]
 ·exact h.tbl.stay g2.mv (g2.refs a hFa) (g2.refs q hFq) hRl
 ·intro d hd
  rcases h.lowf d hd with h1|h1
  ·exact .inl h1
  ·refine .inr ?_
   rw [g2.heap d d (g2.low d hd)]
   cases ho:HeapF H d with
   | none=>rfl
   | some o=>
    rw [ho] at h1
    rw [Option.map_some,renO_below g2.low o (fun e he=>by rw [h1] at he;simp at he)]
    exact h1
 ·have:=heapF_lt hcx;omega
 ·intro d o hd ho hfo
  rw [g2.heap d d (g2.low d hd),ho];exact hfo π
end
theorem refsL_append (a b:List AV):refsL (a ++ b) = refsL a ++ refsL b:=by
 induction a with
 | nil=>rfl
 | cons v a ih=>simp only [List.cons_append,refsL,ih,List.append_assoc]
theorem callV_tbl {E:Env} {d:Bool} {call:CallF} {g:FuncId} {args:List AV} {H:Heap} {m a b q:Nat} {ids:Nat → Nat} {w:Nat} {fo fo':List (List (BitVec 64))} {fr:Int} (hx:E.ext g = false) (hf:(E.fn g).isSome = true)
 (h:TSt H m a b q ids w fo fr) (hm:m ≤ H.length) (hn:fo.length ≤ 1000) (ha:refsL args = []) (hl:fo'.length = fo.length)
 (hrun:∀ (H0:Heap) (a' b' q':Nat) (ids':Nat → Nat),Tbl H0 a' b' q' ids' w fo fr → (∀ c,c < H0.length → c ∈ Tbl.blocks a' b' q' ids' fo.length) → ∃ H1,call g (args ++ [.ptr a' 0 0,.ptr q' 0 0]) H0 = some (.tuple [],H1) ∧ H1.length = H0.length ∧ Tbl H1 a' b' q' ids' w fo' fr) :
 ∃ H' σ,callV E d call (.func (.func g) [] [.ptr a 0 0,.ptr q 0 0]) args H = some (.tuple [],H',σ) ∧ TSt H' m a b q ids w fo' fr ∧ H'.length = H.length ∧ ∀ c,c ∉ Tbl.blocks a b q ids fo.length → HeapF H' c = HeapF H c:=by
 have hrf:refsL ([] ++ args ++ [AV.ptr a 0 0,.ptr q 0 0]) = [a,q]:=by rw [List.nil_append,refsL_append,ha];rfl
 have hb1:∀ c ∈ [a,q],c ∈ Tbl.blocks a b q ids fo.length:=by
  intro c hc;simp only [List.mem_cons,List.not_mem_nil,or_false] at hc
  rcases hc with rfl|rfl
  ·exact Tbl.mem_blocks.2 (.inl rfl)
  ·exact Tbl.mem_blocks.2 (.inr (.inr (.inl rfl)))
 have hcost:=h.tbl.cost
 obtain ⟨σ,hr,hlt,hgo⟩:=callLoc_rel (call g) ([] ++ args ++ [AV.ptr a 0 0,.ptr q 0 0]) H (Tbl.blocks a b q ids fo.length) (by rw [hrf];exact hb1) h.tbl.closed (fun c hc=>by have:=h.bnd c hc;omega) (by rw [hrf];simp only [List.length_cons,List.length_nil];omega)
 rw [hrf] at hr
 have hsub:∀ c ∈ σ,c ∈ Tbl.blocks a b q ids fo.length:=hr.least (·∈ Tbl.blocks a b q ids fo.length) hb1 (fun c hc d hd=>h.tbl.closed c hc d hd)
 have hmv:=mv_small hr
 obtain ⟨a',b',q',ids',e1,e2,e3,e4,ht⟩:=h.tbl.mv hmv (hr.start a (by simp)) (hr.start q (by simp))
 have hslen:(smallH H σ (piOf σ)).length = σ.length:=by simp [smallH]
 have hall:∀ c,c < (smallH H σ (piOf σ)).length → c ∈ Tbl.blocks a' b' q' ids' fo.length:=by
  intro j hj
  rw [hslen] at hj
  obtain ⟨c,hc⟩:∃ c,σ[j]? = some c:=⟨_,List.getElem?_eq_getElem hj⟩
  have hpi:piOf σ c = some j:=idxOf_of_get hr.nodup hc
  have hcb:=hsub c (List.mem_of_getElem? hc)
  rw [Tbl.mem_blocks] at hcb ⊢
  rcases hcb with rfl|rfl|rfl|⟨i,hi,rfl⟩
  ·rw [hpi] at e1;cases e1;exact .inl rfl
  ·rw [hpi] at e2;cases e2;exact .inr (.inl rfl)
  ·rw [hpi] at e3;cases e3;exact .inr (.inr (.inl rfl))
  ·have:=e4 i hi;rw [hpi] at this;cases this;exact .inr (.inr (.inr ⟨i,hi,rfl⟩))
 obtain ⟨H1,hc1,hl1,ht1⟩:=hrun _ a' b' q' ids' ht hall
 have hra:([] ++ args ++ [AV.ptr a 0 0,.ptr q 0 0]).map (ren (piOf σ)) = args ++ [.ptr a' 0 0,.ptr q' 0 0]:=by
  rw [List.nil_append,List.map_append,renM_flat _ ha]
  simp only [List.map_cons,List.map_nil,ren,e1,e3]
 have hgo:=hgo (.tuple []) H1 (by rw [hra];exact hc1)
 have hd:(H1.drop σ.length) = []:=List.drop_eq_nil_of_le (by rw [hl1,hslen];omega)
 rw [hd,List.map_nil,List.append_nil] at hgo
 have hbk:=mv_back (H:=H) (H1:=H1) hr.nodup hlt (fun j=>j < σ.length) (fun j hj=>hj) (by
  intro j hj c hc
  have hjb:=hall j (by rw [hslen];exact hj)
  rw [← hl] at hjb
  have hcb:=ht1.closed j hjb c hc
  have:c < H1.length:=by
   rw [Tbl.mem_blocks] at hcb
   rcases hcb with rfl|rfl|rfl|⟨i,hi,rfl⟩
   ·exact heapF_lt ht1.out
   ·exact heapF_lt ht1.top
   ·exact heapF_lt ht1.frm
   ·obtain ⟨f,hf⟩:∃ f,fo'[i]? = some f:=⟨_,List.getElem?_eq_getElem hi⟩
    exact heapF_lt (ht1.sub i f hf).1
  rw [hl1,hslen] at this;exact this)
 have hal:a' < σ.length:=(List.getElem?_eq_some_iff.1 (idxOf_get e1)).1
 have hql:q' < σ.length:=(List.getElem?_eq_some_iff.1 (idxOf_get e3)).1
 obtain ⟨a2,b2,q2,ids2,f1,f2,f3,f4,ht2⟩:=ht1.mv hbk hal hql
 rw [back_pi e1] at f1
 rw [back_pi e2] at f2
 rw [back_pi e3] at f3
 cases f1;cases f2;cases f3
 have ht3:Tbl (putBack σ H.length H1 0 H) a b q ids w fo' fr:=ht2.congr fun j hj=>by
  have h4:=f4 j hj
  rw [back_pi (e4 j (by rw [← hl];exact hj))] at h4
  exact (Option.some.inj h4).symm
 have hout:∀ c,c ∉ Tbl.blocks a b q ids fo.length → HeapF (putBack σ H.length H1 0 H) c = HeapF H c:=fun c hc=>put_out (fun hcs=>hc (hsub c hcs))
 have hpl:(putBack σ H.length H1 0 H).length = H.length:=putBack_len 0 H
 refine ⟨_,σ,callV_eq hx hf rfl (by simpa [ren,renL] using hgo) hpl,⟨ht3,?_,by rw [hl];exact h.bnd⟩,hpl,hout⟩
 intro c hc
 rw [hl]
 rcases h.lowf c hc with h1|h1
 ·exact .inl h1
 ·by_cases hcb:c ∈ Tbl.blocks a b q ids fo.length
  ·exact .inl hcb
  ·rw [hout c hcb];exact .inr h1
end Go.Ax
/- AxLog: the look at a drawn region's log, the order first. -/
namespace Go.Ax
def logRow2 (all:List Oper) (j:Nat) (y:LogE):Nat → List LogE → Bool
 | _,[]=>true
 | 0,_ :: _=>false
 | i + 1,x :: rest=>(ordered all i j || !(x.clash y)) && logRow2 all j y i rest
def logOk2 (all:List Oper):Nat → List LogE → Bool
 | _,[]=>true
 | 0,_ :: _=>false
 | j + 1,y :: rest=>logRow2 all j y j rest && logOk2 all j rest
theorem logRow2_eq (all:List Oper) (j:Nat) (y:LogE):∀ (i:Nat) (l:List LogE),logRow2 all j y i l = logOk.logRow all j y i l
 | _,[]=>by unfold logRow2 logOk.logRow;rfl
 | 0,_ :: _=>by unfold logRow2 logOk.logRow;rfl
 | i + 1,x :: rest=>by unfold logRow2 logOk.logRow;rw [logRow2_eq all j y i rest,Bool.or_comm]
theorem logOk2_eq (all:List Oper):∀ (i:Nat) (l:List LogE),logOk2 all i l = logOk all i l
 | _,[]=>by unfold logOk2 logOk;rfl
 | 0,_ :: _=>by unfold logOk2 logOk;rfl
 | j + 1,y :: rest=>by unfold logOk2 logOk;rw [logOk2_eq all j rest,logRow2_eq]
theorem xs2 {F F1:Frm} {H H1:Heap} {Q:Post} {E:Env} {M:List Fact} {m N:Nat} {g:FuncId} {cur:Nat} {id ops draw} {log:List LogE} (h:runD E draw N (sem E M) ops.toList ops.toList [] F H = some (F1,H1,log)) (hl:(!draw || logOk2 ops.toList log.length log) = true) (hq:Q .normal F1 H1):Wp (cx E M m N g cur) (.region id ops draw) F H Q:=
 xs h (by rw [← logOk2_eq];exact hl) hq
def RowP (all:List Oper) (j:Nat) (y:LogE):List LogE → Prop
 | []=>True
 | x :: rest=>(ordered all rest.length j = true ∨ x.clash y = false) ∧ RowP all j y rest
def LogP (all:List Oper):List LogE → Prop
 | []=>True
 | y :: rest=>RowP all rest.length y rest ∧ LogP all rest
theorem logP_nil {all:List Oper}:LogP all []:=by unfold LogP;trivial
theorem logP_cons {all:List Oper} {y:LogE} {rest:List LogE} (h1:RowP all rest.length y rest) (h2:LogP all rest):LogP all (y :: rest):=by unfold LogP;exact ⟨h1,h2⟩
theorem rowP_nil {all:List Oper} {j:Nat} {y:LogE}:RowP all j y []:=by unfold RowP;trivial
theorem rowP_ord {all:List Oper} {j:Nat} {y x:LogE} {rest:List LogE} (h1:ordered all rest.length j = true) (h2:RowP all j y rest):RowP all j y (x :: rest):=by unfold RowP;exact ⟨.inl h1,h2⟩
theorem rowP_dis {all:List Oper} {j:Nat} {y x:LogE} {rest:List LogE} (h1:x.clash y = false) (h2:RowP all j y rest):RowP all j y (x :: rest):=by unfold RowP;exact ⟨.inr h1,h2⟩
theorem rowP_ok {all:List Oper} {j:Nat} {y:LogE}:∀ {l:List LogE},RowP all j y l → logRow2 all j y l.length l = true
 | [],_=>by unfold logRow2;rfl
 | x :: rest,h=>by
  rw [List.length_cons]
  unfold logRow2
  rw [rowP_ok h.2,Bool.and_true]
  rcases h.1 with h1|h1
  ·rw [h1,Bool.true_or]
  ·rw [h1];simp
theorem logP_ok {all:List Oper}:∀ {l:List LogE},LogP all l → logOk2 all l.length l = true
 | [],_=>by unfold logOk2;rfl
 | y :: rest,h=>by
  rw [List.length_cons]
  unfold logOk2
  rw [logP_ok h.2,Bool.and_true]
  exact rowP_ok h.1
theorem xs3 {F F1:Frm} {H H1:Heap} {Q:Post} {E:Env} {M:List Fact} {m N:Nat} {g:FuncId} {cur:Nat} {id ops draw} {log:List LogE} (h:runD E draw N (sem E M) ops.toList ops.toList [] F H = some (F1,H1,log)) (hl:LogP ops.toList log) (hq:Q .normal F1 H1):Wp (cx E M m N g cur) (.region id ops draw) F H Q:=
 xs2 h (by rw [logP_ok hl];simp) hq
theorem clash_dis {x y:LogE} (h1:∀ a ∈ x.keys,a ∉ y.needs) (h2:∀ a ∈ x.keys,a ∉ y.keys) (h3:∀ a ∈ x.needs,a ∉ y.keys):x.clash y = false:=by
 have hm:∀ l k:List Nat,(∀ a ∈ l,a ∉ k) → meetsB l k = false:=by
  intro l k h
  unfold meetsB
  rw [List.any_eq_false]
  intro a ha
  have:=h a ha
  rw [Bool.not_eq_true]
  cases hc:containsN k a with
  | false=>rfl
  | true=>exact absurd (containsN_iff.1 hc) this
 unfold LogE.clash
 rw [hm _ _ h1,hm _ _ h2,hm _ _ h3];rfl
theorem xs_mid {F:Frm} {H:Heap} {Q:Post} {E:Env} {M:List Fact} {m N:Nat} {g:FuncId} {cur:Nat} {id ops draw} (R:Frm → Heap → Prop) (h:∃ F1 H1 log,runD E draw N (sem E M) ops.toList ops.toList [] F H = some (F1,H1,log) ∧ LogP ops.toList log ∧ R F1 H1) (hq:∀ F1 H1,R F1 H1 → Q .normal F1 H1):Wp (cx E M m N g cur) (.region id ops draw) F H Q:=by
 obtain ⟨F1,H1,log,h1,h2,h3⟩:=h
 exact xs3 h1 h2 (hq _ _ h3)
theorem mid_intro {draw:Bool} {E:Env} {M:List Fact} {N:Nat} {ops:List Oper} {F F1:Frm} {H H1:Heap} {log:List LogE} {R:Frm → Heap → Prop} (h1:runD E draw N (sem E M) ops ops [] F H = some (F1,H1,log)) (h2:LogP ops log) (h3:R F1 H1):∃ F1 H1 log,runD E draw N (sem E M) ops ops [] F H = some (F1,H1,log) ∧ LogP ops log ∧ R F1 H1:=⟨_,_,_,h1,h2,h3⟩
theorem xs_midS {F:Frm} {H:Heap} {Q:Post} {E:Env} {M:List Fact} {m N:Nat} {g:FuncId} {cur:Nat} {id ops} (R:Frm → Heap → Prop) (h:∃ F1 H1 log,runD E false N (sem E M) ops.toList ops.toList [] F H = some (F1,H1,log) ∧ R F1 H1) (hq:∀ F1 H1,R F1 H1 → Q .normal F1 H1):Wp (cx E M m N g cur) (.region id ops false) F H Q:=by
 obtain ⟨F1,H1,log,h1,h3⟩:=h
 exact xs h1 rfl (hq _ _ h3)
theorem mid_introS {draw:Bool} {E:Env} {M:List Fact} {N:Nat} {ops:List Oper} {F F1:Frm} {H H1:Heap} {log:List LogE} {R:Frm → Heap → Prop} (h1:runD E draw N (sem E M) ops ops [] F H = some (F1,H1,log)) (h3:R F1 H1):∃ F1 H1 log,runD E draw N (sem E M) ops ops [] F H = some (F1,H1,log) ∧ R F1 H1:=⟨_,_,_,h1,h3⟩
theorem heapF_loS2 {H L:Heap} {a b d:Nat} {x y:Option AObj} (hd:d < H.length):HeapF ((H.set a x).set b y ++ L) d = if b = d then y else if a = d then x else HeapF H d:=by
 rw [heapF_loS (by rw [List.length_set];exact hd)]
 by_cases h1:b = d
 ·rw [if_pos h1,if_pos h1]
 ·rw [if_neg h1,if_neg h1]
  have:=heapF_loS (H:=H) (L:=[]) (a:=a) (o:=x) hd
  rwa [List.append_nil] at this
theorem heapF_hiS2 {H L:Heap} {a b:Nat} {x y:Option AObj} (i:Nat):HeapF ((H.set a x).set b y ++ L) (H.length + i) = HeapF L i:=by
 have:=heapF_hiS (H:=H.set a x) (L:=L) (a:=b) (o:=y) i
 rwa [List.length_set] at this
end Go.Ax
/- AxTab3: calls that are given a table (and a list in a block). -/
namespace Go.Ax
theorem Tbl.lt {H:Heap} {a b q:Nat} {ids:Nat → Nat} {w:Nat} {fo:List (List (BitVec 64))} {fr:Int} (h:Tbl H a b q ids w fo fr):∀ c ∈ Tbl.blocks a b q ids fo.length,c < H.length:=by
 intro c hc
 rw [Tbl.mem_blocks] at hc
 rcases hc with rfl|rfl|rfl|⟨i,hi,rfl⟩
 ·exact heapF_lt h.out
 ·exact heapF_lt h.top
 ·exact heapF_lt h.frm
 ·obtain ⟨f,hf⟩:∃ f,fo[i]? = some f:=⟨_,List.getElem?_eq_getElem hi⟩
  exact heapF_lt (h.sub i f hf).1
theorem callV_tbA {E:Env} {d:Bool} {call:CallF} {g:FuncId} {H:Heap} {a b q:Nat} {ids:Nat → Nat} {w:Nat} {fo fo':List (List (BitVec 64))} {fr:Int} (hx:E.ext g = false) (hf:(E.fn g).isSome = true)
 (mk:Nat → Nat → List AV) (hmk:∀ y z,refsL (mk y z) = [y,z]) (hren:∀ (π:Nat → Option Nat) (y z y' z':Nat),π y = some y' → π z = some z' → (mk y z).map (ren π) = mk y' z')
 (ht:Tbl H a b q ids w fo fr) (hn:fo.length ≤ 1000) (hl:fo'.length = fo.length)
 (hrun:∀ (H0:Heap) (a' b' q':Nat) (ids':Nat → Nat),TSt H0 H0.length a' b' q' ids' w fo fr → ∃ H1,call g (mk a' q') H0 = some (.tuple [],H1) ∧ H1.length = H0.length ∧ Tbl H1 a' b' q' ids' w fo' fr) :
 ∃ H' σ,callV E d call (.func (.func g) [] []) (mk a q) H = some (.tuple [],H',σ) ∧ Tbl H' a b q ids w fo' fr ∧ H'.length = H.length ∧ ∀ c,c ∉ Tbl.blocks a b q ids fo.length → HeapF H' c = HeapF H c:=by
 have hrf:refsL ([] ++ mk a q ++ []) = [a,q]:=by rw [List.nil_append,List.append_nil,hmk]
 have hblt:=ht.lt
 have hb1:∀ c ∈ [a,q],c ∈ Tbl.blocks a b q ids fo.length:=by
  intro c hc;simp only [List.mem_cons,List.not_mem_nil,or_false] at hc 
  rcases hc with rfl|rfl
  ·exact Tbl.mem_blocks.2 (.inl rfl)
  ·exact Tbl.mem_blocks.2 (.inr (.inr (.inl rfl)))
 have hSc:∀ c ∈ Tbl.blocks a b q ids fo.length,∀ d ∈ refsO (HeapF H c),d ∈ Tbl.blocks a b q ids fo.length:=by
  intro c hc d hd
  exact ht.closed c hc d hd
 have hcost:=ht.cost
 obtain ⟨σ,hr,hlt,hgo⟩:=callLoc_rel (call g) ([] ++ mk a q ++ []) H (Tbl.blocks a b q ids fo.length) (by rw [hrf];exact hb1) hSc (by
  intro c hc
  exact hblt c hc) (by rw [hrf];simp only [List.length_cons,List.length_nil];omega)
 rw [hrf] at hr
 have hsub:∀ c ∈ σ,c ∈ Tbl.blocks a b q ids fo.length:=hr.least (·∈ Tbl.blocks a b q ids fo.length) hb1 (fun c hc d hd=>hSc c hc d hd)
 have hmv:=mv_small hr
 obtain ⟨a',b',q',ids',e1,e2,e3,e4,ht'⟩:=ht.mv hmv (hr.start a (by simp)) (hr.start q (by simp))
 have hslen:(smallH H σ (piOf σ)).length = σ.length:=by simp [smallH]
 have hall:∀ c,c < (smallH H σ (piOf σ)).length → c ∈ Tbl.blocks a' b' q' ids' fo.length:=by
  intro j hj
  rw [hslen] at hj
  obtain ⟨c,hc⟩:∃ c,σ[j]? = some c:=⟨_,List.getElem?_eq_getElem hj⟩
  have hpi:piOf σ c = some j:=idxOf_of_get hr.nodup hc
  have hcb:=hsub c (List.mem_of_getElem? hc)
  rw [Tbl.mem_blocks] at hcb ⊢
  rcases hcb with rfl|rfl|rfl|⟨i,hi,rfl⟩
  ·rw [hpi] at e1;cases e1;exact .inl rfl
  ·rw [hpi] at e2;cases e2;exact .inr (.inl rfl)
  ·rw [hpi] at e3;cases e3;exact .inr (.inr (.inl rfl))
  ·have:=e4 i hi;rw [hpi] at this;cases this;exact .inr (.inr (.inr ⟨i,hi,rfl⟩))
 have hTS:TSt (smallH H σ (piOf σ)) (smallH H σ (piOf σ)).length a' b' q' ids' w fo fr:=⟨ht',fun c hc=>.inl (hall c hc),fun c hc=>ht'.lt c hc⟩
 obtain ⟨H1,hc1,hl1,ht1⟩:=hrun _ a' b' q' ids' hTS
 have hra:([] ++ mk a q ++ []).map (ren (piOf σ)) = mk a' q':=by
  rw [List.nil_append,List.append_nil]
  exact hren _ _ _ _ _ e1 e3
 have hgo:=hgo (.tuple []) H1 (by rw [hra];exact hc1)
 have hd:(H1.drop σ.length) = []:=List.drop_eq_nil_of_le (by rw [hl1,hslen];omega)
 rw [hd,List.map_nil,List.append_nil] at hgo
 have hbk:=mv_back (H:=H) (H1:=H1) hr.nodup hlt (fun j=>j < σ.length) (fun j hj=>hj) (by
  intro j hj c hc
  have hjb:=hall j (by rw [hslen];exact hj)
  rw [← hl] at hjb
  have:=ht1.lt c (ht1.closed j hjb c hc)
  rw [hl1,hslen] at this;exact this)
 have hal:a' < σ.length:=(List.getElem?_eq_some_iff.1 (idxOf_get e1)).1
 have hql:q' < σ.length:=(List.getElem?_eq_some_iff.1 (idxOf_get e3)).1
 obtain ⟨a2,b2,q2,ids2,f1,f2,f3,f4,ht2⟩:=ht1.mv hbk hal hql
 rw [back_pi e1] at f1
 rw [back_pi e2] at f2
 rw [back_pi e3] at f3
 cases f1;cases f2;cases f3
 have ht3:Tbl (putBack σ H.length H1 0 H) a b q ids w fo' fr:=ht2.congr fun j hj=>by
  have h4:=f4 j hj
  rw [back_pi (e4 j (by rw [← hl];exact hj))] at h4
  exact (Option.some.inj h4).symm
 have hpl:(putBack σ H.length H1 0 H).length = H.length:=putBack_len 0 H
 refine ⟨_,σ,callV_eq hx hf rfl (by simpa [ren,renL] using hgo) hpl,ht3,hpl,fun c hc=>put_out (fun hcs=>hc (hsub c hcs))⟩
theorem callV_tbB {E:Env} {d:Bool} {call:CallF} {g:FuncId} {H:Heap} {lb a b q:Nat} {ids:Nat → Nat} {w:Nat} {fo fo':List (List (BitVec 64))} {fr:Int} {lo:AObj} (hx:E.ext g = false) (hf:(E.fn g).isSome = true)
 (mk:Nat → Nat → Nat → List AV) (hmk:∀ x y z,refsL (mk x y z) = [x,y,z]) (hren:∀ (π:Nat → Option Nat) (x y z x' y' z':Nat),π x = some x' → π y = some y' → π z = some z' → (mk x y z).map (ren π) = mk x' y' z')
 (ht:Tbl H a b q ids w fo fr) (hlb:HeapF H lb = some lo) (hlf:refsO (some lo) = []) (hlo:FlatO (some lo)) (hlbn:lb ∉ Tbl.blocks a b q ids fo.length) (hn:fo.length ≤ 1000) (hl:fo'.length = fo.length)
 (hrun:∀ (H0:Heap) (l' a' b' q':Nat) (ids':Nat → Nat),TSt H0 H0.length a' b' q' ids' w fo fr → HeapF H0 l' = some lo → l' ∉ Tbl.blocks a' b' q' ids' fo.length → l' < H0.length → ∃ H1,call g (mk l' a' q') H0 = some (.tuple [],H1) ∧ H1.length = H0.length ∧ Tbl H1 a' b' q' ids' w fo' fr ∧ HeapF H1 l' = some lo) :
 ∃ H' σ,callV E d call (.func (.func g) [] []) (mk lb a q) H = some (.tuple [],H',σ) ∧ Tbl H' a b q ids w fo' fr ∧ H'.length = H.length ∧ HeapF H' lb = some lo ∧ ∀ c,c ∉ Tbl.blocks a b q ids fo.length → c ≠ lb → HeapF H' c = HeapF H c:=by
 have hrf:refsL ([] ++ mk lb a q ++ []) = [lb,a,q]:=by rw [List.nil_append,List.append_nil,hmk]
 have hblt:=ht.lt
 have hb1:∀ c ∈ [lb,a,q],c ∈ lb :: Tbl.blocks a b q ids fo.length:=by
  intro c hc;simp only [List.mem_cons,List.not_mem_nil,or_false] at hc ⊢
  rcases hc with rfl|rfl|rfl
  ·exact .inl rfl
  ·exact .inr (Tbl.mem_blocks.2 (.inl rfl))
  ·exact .inr (Tbl.mem_blocks.2 (.inr (.inr (.inl rfl))))
 have hSc:∀ c ∈ lb :: Tbl.blocks a b q ids fo.length,∀ d ∈ refsO (HeapF H c),d ∈ lb :: Tbl.blocks a b q ids fo.length:=by
  intro c hc d hd
  simp only [List.mem_cons] at hc ⊢
  rcases hc with rfl|hc
  ·rw [hlb,hlf] at hd;simp at hd
  ·exact .inr (ht.closed c hc d hd)
 have hcost:=ht.cost
 obtain ⟨σ,hr,hlt,hgo⟩:=callLoc_rel (call g) ([] ++ mk lb a q ++ []) H (lb :: Tbl.blocks a b q ids fo.length) (by rw [hrf];exact hb1) hSc (by
  intro c hc
  simp only [List.mem_cons] at hc
  rcases hc with rfl|hc
  ·exact heapF_lt hlb
  ·exact hblt c hc) (by rw [hrf];simp only [List.length_cons,List.length_nil,List.map_cons,List.sum_cons,hlb,hlf];omega)
 rw [hrf] at hr
 have hsub:∀ c ∈ σ,c ∈ lb :: Tbl.blocks a b q ids fo.length:=hr.least (·∈ lb :: Tbl.blocks a b q ids fo.length) hb1 (fun c hc d hd=>hSc c hc d hd)
 have hmv:=mv_small hr
 obtain ⟨a',b',q',ids',e1,e2,e3,e4,ht'⟩:=ht.mv hmv (hr.start a (by simp)) (hr.start q (by simp))
 obtain ⟨l',e0,_,hl0⟩:=small_get (H:=H) hr.nodup (hr.start lb (by simp))
 rw [hlb,hlo] at hl0
 have hslen:(smallH H σ (piOf σ)).length = σ.length:=by simp [smallH]
 have hall:∀ c,c < (smallH H σ (piOf σ)).length → c = l' ∨ c ∈ Tbl.blocks a' b' q' ids' fo.length:=by
  intro j hj
  rw [hslen] at hj
  obtain ⟨c,hc⟩:∃ c,σ[j]? = some c:=⟨_,List.getElem?_eq_getElem hj⟩
  have hpi:piOf σ c = some j:=idxOf_of_get hr.nodup hc
  have hcb:=hsub c (List.mem_of_getElem? hc)
  simp only [List.mem_cons] at hcb
  rw [Tbl.mem_blocks] at hcb ⊢
  rcases hcb with rfl|rfl|rfl|rfl|⟨i,hi,rfl⟩
  ·rw [hpi] at e0;cases e0;exact .inl rfl
  ·rw [hpi] at e1;cases e1;exact .inr (.inl rfl)
  ·rw [hpi] at e2;cases e2;exact .inr (.inr (.inl rfl))
  ·rw [hpi] at e3;cases e3;exact .inr (.inr (.inr (.inl rfl)))
  ·have:=e4 i hi;rw [hpi] at this;cases this;exact .inr (.inr (.inr (.inr ⟨i,hi,rfl⟩)))
 have hTS:TSt (smallH H σ (piOf σ)) (smallH H σ (piOf σ)).length a' b' q' ids' w fo fr:=⟨ht',fun c hc=>(hall c hc).elim (fun e=>.inr (by rw [e,hl0];exact hlf)) .inl,fun c hc=>ht'.lt c hc⟩
 obtain ⟨H1,hc1,hl1,ht1,hlb1⟩:=hrun _ l' a' b' q' ids' hTS hl0 (by
  rw [Tbl.mem_blocks]
  rintro (e|e|e|⟨i,hi,e⟩)
  ·rw [e] at e0;exact hlbn (Tbl.mem_blocks.2 (.inl (hmv.inj _ _ _ e0 e1)))
  ·rw [e] at e0;exact hlbn (Tbl.mem_blocks.2 (.inr (.inl (hmv.inj _ _ _ e0 e2))))
  ·rw [e] at e0;exact hlbn (Tbl.mem_blocks.2 (.inr (.inr (.inl (hmv.inj _ _ _ e0 e3)))))
  ·rw [e] at e0;exact hlbn (Tbl.mem_blocks.2 (.inr (.inr (.inr ⟨i,hi,hmv.inj _ _ _ e0 (e4 i hi)⟩))))) (heapF_lt hl0)
 have hra:([] ++ mk lb a q ++ []).map (ren (piOf σ)) = mk l' a' q':=by
  rw [List.nil_append,List.append_nil]
  exact hren _ _ _ _ _ _ _ e0 e1 e3
 have hgo:=hgo (.tuple []) H1 (by rw [hra];exact hc1)
 have hd:(H1.drop σ.length) = []:=List.drop_eq_nil_of_le (by rw [hl1,hslen];omega)
 rw [hd,List.map_nil,List.append_nil] at hgo
 have hbk:=mv_back (H:=H) (H1:=H1) hr.nodup hlt (fun j=>j < σ.length) (fun j hj=>hj) (by
  intro j hj c hc
  have hjb:=hall j (by rw [hslen];exact hj)
  rcases hjb with rfl|hjb
  ·rw [hlb1,hlf] at hc;simp at hc
  rw [← hl] at hjb
  have:=ht1.lt c (ht1.closed j hjb c hc)
  rw [hl1,hslen] at this;exact this)
 have hal:a' < σ.length:=(List.getElem?_eq_some_iff.1 (idxOf_get e1)).1
 have hql:q' < σ.length:=(List.getElem?_eq_some_iff.1 (idxOf_get e3)).1
 obtain ⟨a2,b2,q2,ids2,f1,f2,f3,f4,ht2⟩:=ht1.mv hbk hal hql
 rw [back_pi e1] at f1
 rw [back_pi e2] at f2
 rw [back_pi e3] at f3
 cases f1;cases f2;cases f3
 have ht3:Tbl (putBack σ H.length H1 0 H) a b q ids w fo' fr:=ht2.congr fun j hj=>by
  have h4:=f4 j hj
  rw [back_pi (e4 j (by rw [← hl];exact hj))] at h4
  exact (Option.some.inj h4).symm
 have hpl:(putBack σ H.length H1 0 H).length = H.length:=putBack_len 0 H
 refine ⟨_,σ,callV_eq hx hf rfl (by simpa [ren,renL] using hgo) hpl,ht3,hpl,?_,fun c hc hc2=>put_out (fun hcs=>by have:=hsub c hcs;simp only [List.mem_cons] at this;rcases this with h|h;exact hc2 h;exact hc h)⟩
 rw [put_in hr.nodup (idxOf_get e0) (heapF_lt hlb),hlb1];exact hlo _
end Go.Ax
/- AxTab4: a table that is being made; heads of the loops that make and fill it. -/
namespace Go.Ax
structure Tb0 (H:Heap) (a b:Nat) (ids:Nat → Nat) (w n i:Nat):Prop where
 out:HeapF H a = some (.row 1 [[.slice b 0 n (some n)]])
 top:HeapF H b = some (.row 1 ((List.range n).map fun j=>if j < i then [AV.slice (ids j) 0 w (some w)] else [.nilslice]))
 sub:∀ j,j < i → HeapF H (ids j) = some (.row 1 (List.replicate w (w64R 0))) ∧ ids j ≠ a ∧ ids j ≠ b
 ab:a ≠ b
 inj:∀ j k,j < i → k < i → ids j = ids k → j = k
section
variable {H H1:Heap} {R:Nat → Prop} {π:Nat → Option Nat} {a b:Nat} {ids:Nat → Nat} {w n i:Nat}
def Tb0.blocks (a b:Nat) (ids:Nat → Nat) (i:Nat):List Nat:=a :: b :: (List.range i).map ids
theorem Tb0.mem_blocks {c:Nat}:c ∈ Tb0.blocks a b ids i ↔ c = a ∨ c = b ∨ ∃ j,j < i ∧ c = ids j:=by
 unfold Tb0.blocks
 simp only [List.mem_cons,List.mem_map,List.mem_range]
 constructor
 ·rintro (h|h|⟨j,hj,rfl⟩)
  ·exact .inl h
  ·exact .inr (.inl h)
  ·exact .inr (.inr ⟨j,hj,rfl⟩)
 ·rintro (h|h|⟨j,hj,rfl⟩)
  ·exact .inl h
  ·exact .inr (.inl h)
  ·exact .inr (.inr ⟨j,hj,rfl⟩)
theorem Tb0.top_refs (h:Tb0 H a b ids w n i) (hin:i ≤ n) {c:Nat}:c ∈ refsO (HeapF H b) ↔ ∃ j,j < i ∧ c = ids j:=by
 rw [h.top]
 show c ∈ ((List.range n).map fun j=>if j < i then [AV.slice (ids j) 0 w (some w)] else [.nilslice]).flatMap refsL ↔ _
 simp only [List.mem_flatMap,List.mem_map,List.mem_range]
 constructor
 ·rintro ⟨r,⟨j,hj,rfl⟩,hc⟩
  split at hc
  ·rename_i hji;exact ⟨j,hji,by simpa [refsL,refs] using hc⟩
  ·simp [refsL,refs] at hc
 ·rintro ⟨j,hj,rfl⟩
  exact ⟨_,⟨j,by omega,rfl⟩,by simp [hj,refsL,refs]⟩
theorem Tb0.closed (h:Tb0 H a b ids w n i) (hin:i ≤ n):∀ c ∈ Tb0.blocks a b ids i,∀ d ∈ refsO (HeapF H c),d ∈ Tb0.blocks a b ids i:=by
 intro c hc d hd
 rw [Tb0.mem_blocks] at hc ⊢
 rcases hc with rfl|rfl|⟨j,hj,rfl⟩
 ·rw [h.out] at hd
  simp [refsO,refsL,refs] at hd
  exact .inr (.inl hd)
 ·obtain ⟨j,hj,rfl⟩:=(h.top_refs hin).1 hd
  exact .inr (.inr ⟨j,hj,rfl⟩)
 ·rw [(h.sub j hj).1,refsO_flat (FlatR.replicate rfl)] at hd
  simp at hd
theorem Tb0.cost (h:Tb0 H a b ids w n i):((Tb0.blocks a b ids i).map fun c=>(refsO (HeapF H c)).length).sum ≤ n + 1:=by
 unfold Tb0.blocks
 have e1:(refsO (HeapF H a)).length = 1:=by rw [h.out];rfl
 have e3:(refsO (HeapF H b)).length ≤ n:=by
  rw [h.top]
  have hlen:∀ l:List Nat,((l.map fun j=>if j < i then [AV.slice (ids j) 0 w (some w)] else [.nilslice]).flatMap refsL).length ≤ l.length:=by
   intro l;induction l with
   | nil=>exact Nat.le_refl _
   | cons x l ih=>
    simp only [List.map_cons,List.flatMap_cons,List.length_append,List.length_cons]
    have:(refsL (if x < i then [AV.slice (ids x) 0 w (some w)] else [AV.nilslice])).length ≤ 1:=by split<;>simp [refsL,refs]
    omega
  have:=hlen (List.range n)
  rw [List.length_range] at this
  exact this
 have e4:(((List.range i).map ids).map fun c=>(refsO (HeapF H c)).length).sum = 0:=by
  refine sum_zero _ ?_
  intro c hc
  obtain ⟨j,hj,rfl⟩:=List.mem_map.1 hc
  rw [(h.sub j (by simpa using hj)).1];exact refsO_flat (FlatR.replicate rfl)
 simp only [List.map_cons,List.sum_cons,e1,e4]
 omega
theorem Tb0.mv (h:Tb0 H a b ids w n i) (hin:i ≤ n) (hm:Mv H R π H1) (ha:R a):∃ a' b' ids',π a = some a' ∧ Tb0 H1 a' b' ids' w n i:=by
 have hb:R b:=hm.closed a ha b (by rw [h.out];simp [refsO,refsL,refs])
 have hid:∀ j,j < i → R (ids j):=fun j hj=>hm.closed b hb _ ((h.top_refs hin).2 ⟨j,hj,rfl⟩)
 obtain ⟨a',ea⟩:=hm.here a ha
 obtain ⟨b',eb⟩:=hm.here b hb
 have ei:∀ j,j < i → π (ids j) = some ((π (ids j)).getD 0):=fun j hj=>by obtain ⟨c,hc⟩:=hm.here _ (hid j hj);rw [hc];rfl
 refine ⟨a',b',fun j=>(π (ids j)).getD 0,ea,?_,?_,?_,?_,?_⟩
 ·rw [hm.heap a a' ha ea,h.out]
  simp only [Option.map_some,renObj,List.map_cons,List.map_nil,Ax.ren,eb]
 ·rw [hm.heap b b' hb eb,h.top]
  simp only [Option.map_some,renObj,List.map_map]
  congr 2
  refine List.map_congr_left fun j hj=>?_
  simp only [Function.comp]
  by_cases hji:j < i
  ·have:=ei j hji
   rw [if_pos hji,if_pos hji]
   simp only [List.map_cons,List.map_nil,Ax.ren]
   rw [this];rfl
  ·rw [if_neg hji,if_neg hji];rfl
 ·intro j hj
  obtain ⟨g1,g2,g3⟩:=h.sub j hj
  have e:=ei j hj
  refine ⟨?_,?_,?_⟩
  ·rw [hm.heap _ _ (hid j hj) e,g1]
   simp only [Option.map_some,renObj,renR_flat π (FlatR.replicate (show refsL (w64R 0) = [] from rfl))]
  ·intro he;rw [he] at e;exact g2 (hm.inj _ _ _ e ea)
  ·intro he;rw [he] at e;exact g3 (hm.inj _ _ _ e eb)
 ·intro e;subst e;exact h.ab (hm.inj _ _ _ ea eb)
 ·intro j k hj hk e
  have e1:=ei j hj
  have e2:=ei k hk
  rw [e] at e1
  exact h.inj j k hj hk (hm.inj _ _ _ e1 e2)
theorem Tb0.same (h:Tb0 H a b ids w n i) (h1:∀ c,(c = a ∨ c = b ∨ ∃ j,j < i ∧ c = ids j) → HeapF H1 c = HeapF H c):Tb0 H1 a b ids w n i:=
 ⟨by rw [h1 a (.inl rfl),h.out],by rw [h1 b (.inr (.inl rfl)),h.top],fun j hj=>by
  obtain ⟨g1,g2⟩:=h.sub j hj
  exact ⟨by rw [h1 (ids j) (.inr (.inr ⟨j,hj,rfl⟩)),g1],g2⟩,h.ab,h.inj⟩
theorem Tb0.add (h:Tb0 H a b ids w n i) (hi:i < n):Tb0 (H.set b (some (.row 1 (((List.range n).map fun j=>if j < i then [AV.slice (ids j) 0 w (some w)] else [.nilslice]).set i [.slice H.length 0 w (some w)]))) ++ [some (.row 1 (List.replicate w (w64R 0)))]) a b (fun j=>if j = i then H.length else ids j) w n (i + 1):=by
 have hal:=heapF_lt h.out
 have hbl:=heapF_lt h.top
 refine ⟨?_,?_,?_,h.ab,?_⟩
 ·rw [heapF_loS hal,if_neg (Ne.symm h.ab),h.out]
 ·rw [heapF_loS hbl,if_pos rfl]
  congr 2
  apply List.ext_getElem?
  intro j
  rw [List.getElem?_set]
  by_cases hij:i = j
  ·subst hij
   simp [hi]
  ·rw [if_neg hij]
   by_cases hjn:j < n
   ·simp only [List.getElem?_map,List.getElem?_range hjn,Option.map_some,if_neg (Ne.symm hij)]
    congr 1
    by_cases h2:j < i
    ·rw [if_pos h2,if_pos (by omega)]
    ·rw [if_neg h2,if_neg (by omega)]
   ·rw [List.getElem?_eq_none (by simp;omega),List.getElem?_eq_none (by simp;omega)]
 ·intro j hj
  by_cases hji:j = i
  ·subst hji
   simp only [if_true]
   refine ⟨?_,by omega,by omega⟩
   have:=heapF_hiS (H:=H) (L:=[some (AObj.row 1 (List.replicate w (w64R 0)))]) (a:=b) (o:=some (.row 1 (((List.range n).map fun j'=>if j' < j then [AV.slice (ids j') 0 w (some w)] else [.nilslice]).set j [.slice H.length 0 w (some w)]))) 0
   rw [Nat.add_zero] at this
   rw [this];rfl
  ·simp only [if_neg hji]
   obtain ⟨g1,g2,g3⟩:=h.sub j (by omega)
   refine ⟨?_,g2,g3⟩
   rw [heapF_loS (heapF_lt g1),if_neg (Ne.symm g3),g1]
 ·intro j k hj hk e
  by_cases h1:j = i<;>by_cases h2:k = i
  ·omega
  ·simp only [h1,if_true,if_neg h2] at e
   have:=heapF_lt (h.sub k (by omega)).1
   omega
  ·simp only [h2,if_true,if_neg h1] at e
   have:=heapF_lt (h.sub j (by omega)).1
   omega
  ·simp only [if_neg h1,if_neg h2] at e
   exact h.inj j k (by omega) (by omega) e
theorem Tb0.done (h:Tb0 H a b ids w n n) {q:Nat} {fr:Int} (hq:HeapF H q = some (.row 1 [[.int .i64 fr]])) (hqa:q ≠ a) (hqb:q ≠ b) (hqi:∀ j,j < n → ids j ≠ q):Tbl H a b q ids w (List.replicate n (List.replicate w 0#64)) fr:=by
 refine ⟨by rw [List.length_replicate];exact h.out,?_,?_,hq,h.ab,Ne.symm hqa,Ne.symm hqb,fun j k hj hk=>by rw [List.length_replicate] at hj hk;exact h.inj j k hj hk⟩
 ·rw [List.length_replicate,h.top]
  congr 2
  refine List.map_congr_left fun j hj=>?_
  rw [if_pos (by simpa using hj)]
 ·intro j f hf
  rw [List.getElem?_replicate] at hf
  split at hf
  case isFalse=>cases hf
  rename_i hj
  cases hf
  obtain ⟨g1,g2,g3⟩:=h.sub j hj
  exact ⟨by rw [g1,List.map_replicate];rfl,g2,g3,hqi j hj,List.length_replicate⟩
end
theorem head_S {m:Nat} {keep:List Nat} {F:Frm} {H:Heap} {P:Frm → Heap → Prop} (hm:m ≤ H.length) (S:List Nat) (h1:∀ b ∈ refsL ((keepF keep F).map (·.2)),b ∈ S) (h2:∀ b,b < m → refsO (HeapF H b) = []) (h3:∀ b ∈ S,∀ c ∈ refsO (HeapF H b),c ∈ S)
 (hc:(S.map fun b=>(refsO (HeapF H b)).length).sum ≤ 100000) (hl:(refsL ((keepF keep F).map (·.2))).length ≤ 100)
 (hP:∀ (R:Nat → Prop) (π:Nat → Option Nat) (H1:Heap),Gc m (keepF keep F) H R π H1 → m ≤ H1.length → P (renF π (keepF keep F)) H1):∃ F1 H1,gcD m keep F H = some (F1,H1) ∧ P F1 H1:=by
 have hlow:((H.take m).flatMap refsO).length = 0:=by
  rw [low_len H m hm]
  have:∀ l:List Nat,(∀ c ∈ l,refsO (HeapF H c) = []) → (l.map fun c=>(refsO (HeapF H c)).length).sum = 0:=sum_zero
  exact this _ (fun c hc=>h2 c (by simpa using hc))
 obtain ⟨R,π,H1,g1,g2,g3⟩:=gc_gen (m:=m) (keep:=keep) (F:=F) (H:=H) hm S h1 (fun b hb c hc=>by rw [h2 b hb] at hc;simp at hc) h3 (by omega)
 exact ⟨_,H1,g1,hP R π H1 g2 g3⟩
end Go.Ax
/- AxTab5: a table's number in another cell; a table that is given back. -/
namespace Go.Ax
section
variable {H:Heap} {a b q:Nat} {ids:Nat → Nat} {w:Nat} {fo:List (List (BitVec 64))} {fr:Int}
theorem Tbl.newq (h:Tbl H a b q ids w fo fr) (fr':Int):Tbl (H ++ [some (.row 1 [[.int .i64 fr']])]) a b H.length ids w fo fr':=by
 have hl:=h.lt
 have hne:∀ c ∈ Tbl.blocks a b q ids fo.length,c ≠ H.length:=fun c hc e=>by have:=hl c hc;omega
 have hm:=h.more (L:=[some (.row 1 [[.int .i64 fr']])])
 refine ⟨hm.out,hm.top,?_,heapF_hi0,h.ab,hne a (Tbl.mem_blocks.2 (.inl rfl)),hne b (Tbl.mem_blocks.2 (.inr (.inl rfl))),h.inj⟩
 intro j f hf
 obtain ⟨g1,g2,g3,g4,g5⟩:=hm.sub j f hf
 exact ⟨g1,g2,g3,hne _ (Tbl.mem_blocks.2 (.inr (.inr (.inr ⟨j,(List.getElem?_eq_some_iff.1 hf).1,rfl⟩)))),g5⟩
theorem Tb0.more {n i:Nat} {L:Heap} (h:Tb0 H a b ids w n i):Tb0 (H ++ L) a b ids w n i:=by
 refine h.same fun c hc=>heapF_lo (eq_true ?_)
 rcases hc with rfl|rfl|⟨j,hj,rfl⟩
 ·exact heapF_lt h.out
 ·exact heapF_lt h.top
 ·exact heapF_lt (h.sub j hj).1
theorem Tb0.lt {n i:Nat} (h:Tb0 H a b ids w n i):a < H.length ∧ b < H.length ∧ ∀ j,j < i → ids j < H.length:=⟨heapF_lt h.out,heapF_lt h.top,fun j hj=>heapF_lt (h.sub j hj).1⟩
theorem Tbl.other (h:Tbl H a b q ids w fo fr) {c k:Nat} {rows:List (List AV)} (hc:HeapF H c = some (.row k rows)) (hk:k ≠ 1):c ∉ Tbl.blocks a b q ids fo.length:=by
 rw [Tbl.mem_blocks]
 rintro (rfl|rfl|rfl|⟨j,hj,rfl⟩)
 ·rw [h.out] at hc;cases hc;exact hk rfl
 ·rw [h.top] at hc;cases hc;exact hk rfl
 ·rw [h.frm] at hc;cases hc;exact hk rfl
 ·obtain ⟨f,hf⟩:∃ f,fo[j]? = some f:=⟨_,List.getElem?_eq_getElem hj⟩
  rw [(h.sub j f hf).1] at hc;cases hc;exact hk rfl
theorem frzR_map {m:Nat} {d:AV → Option AV}:∀ (rows:List (List AV)) (out:List (List AV)),rows.length = out.length → (∀ (j:Nat) r o,rows[j]? = some r → out[j]? = some o → frzL m false d r = some o) → frzR m d rows = some out
 | [],out,hl,_=>by cases out with|nil=>rfl|cons=>simp at hl
 | r :: rows,[],hl,_=>by simp at hl
 | r :: rows,o :: out,hl,hh=>by
  rw [frzR_cons,hh 0 r o rfl rfl]
  simp only [obind]
  rw [frzR_map rows out (by simpa using hl) (fun j r o hr ho=>hh (j + 1) r o (by simpa using hr) (by simpa using ho))]
theorem Tbl.frz (h:Tbl H a b q ids w fo fr) {m:Nat} (hb:m ≤ b) (hi:∀ j,j < fo.length → m ≤ ids j):frzV m true (frzD (HeapF H) m 12) (.slice b 0 fo.length (some fo.length)) = some (.islice (fo.map fun f=>[.islice (f.map w64R) (some w)]) (some fo.length)):=by
 rw [frz_slice,decide_eq_false (by omega:¬ b < m),cond_false,frzD_slice (eq_true (by omega:0 < 12)),h.top]
 simp only [rowO,obind,List.length_map,List.length_range,List.drop_zero,Nat.zero_add]
 rw [decide_eq_true (Nat.le_refl _),cond_true,List.take_of_length_le (by simp)]
 rw [frzR_map _ (fo.map fun f=>[.islice (f.map w64R) (some w)]) (by simp)]
 intro j r o hr ho
 rw [List.getElem?_map] at ho hr
 cases hf:fo[j]? with
 | none=>rw [hf] at ho;cases ho
 | some f=>
  rw [hf] at ho
  have hj:j < fo.length:=(List.getElem?_eq_some_iff.1 hf).1
  rw [List.getElem?_range hj] at hr
  cases ho;cases hr
  obtain ⟨g1,_,_,_,g5⟩:=h.sub j f hf
  have:=hi j hj
  rw [frzL_cons,frzL_nil,frz_slice,decide_eq_false (by omega:¬ ids j < m),cond_false,frzD_slice (eq_true (by omega:0 < 11)),g1]
  simp only [rowO,obind,List.drop_zero,Nat.zero_add,List.length_map]
  rw [decide_eq_true (by omega),cond_true,List.take_of_length_le (by simp;omega),frzR_flat _ _ (flatW64 f)]
end
end Go.Ax
/- AxMapS: maps by keys that have an encoding; maps of growing slices of numbers. -/
namespace Go.Ax
def posE {α:Type} [DecidableEq α] (x:α):List α → Option Nat
 | []=>none
 | y :: l=>if x = y then some 0 else (posE x l).map (·+ 1)
theorem posE_some {α:Type} [DecidableEq α] {x:α}:∀ {l:List α} {j:Nat},posE x l = some j → l[j]? = some x
 | [],_,h=>by cases h
 | y :: l,j,h=>by
  unfold posE at h
  split at h
  ·rename_i e;cases h;rw [e];rfl
  ·cases hp:posE x l with
   | none=>rw [hp] at h;cases h
   | some k=>rw [hp] at h;cases h;rw [List.getElem?_cons_succ];exact posE_some hp
structure KeyOk {α:Type} [DecidableEq α] (E:Env) (t kt et:TypeId) (enc:α → AV):Prop where
 und:E.und t = some (.map kt et)
 ty:keyTy E kt = true
 val:∀ x,keyVal E kt (enc x) = true
 eq:∀ x y,aeq E 6 kt (enc x) (enc y) = some (decide (x = y))
 same:∀ x,asame (enc x) (enc x) = true
section
variable {α:Type} [DecidableEq α] {E:Env} {t kt et:TypeId} {enc:α → AV}
theorem KeyOk.find (ho:KeyOk E t kt et enc) (x:α):∀ (l:List α) (i:Nat),afindKey (aeq E 6 kt) (enc x) (l.map enc) i = some ((posE x l).map (i + ·))
 | [],i=>rfl
 | y :: l,i=>by
  simp only [List.map_cons,afindKey,ho.eq,posE]
  by_cases h:x = y
  ·simp [h]
  ·rw [decide_eq_false h,cond_false,ho.find x l (i + 1),if_neg h]
   cases posE x l with
   | none=>rfl
   | some k=>simp only [Option.map_some,Option.some.injEq];omega
theorem KeyOk.lookup (ho:KeyOk E t kt et enc) {h:FHeap} {m v z:AV} {zl:List AV} {d:TypeDesc} {l:List α} {vs:List AV} (hz:E.zero et = some zl) (hd:E.und et = some d) (hz1:zeroOne d zl = some z) (hm:amapOf h m = some (l.map enc,vs)) (x:α)
 (hv:(match posE x l with|some i=>vs[i]?|none=>some z) = some v):alookup E h t m (enc x) false = some v:=by
 unfold alookup
 rw [ho.und]
 simp only [ho.ty,ho.val,Bool.and_self,cond_true,hm,hz,hd,ho.find]
 cases hp:posE x l with
 | none=>
  rw [hp] at hv
  cases hv
  simp only [Option.map_none]
  unfold zeroOne at hz1
  cases ha:aggDesc d with
  | true=>rw [ha] at hz1;simpa using hz1
  | false=>
   rw [ha] at hz1
   simp only [cond_false] at hz1 ⊢
   split at hz1
   ·cases hz1;rfl
   ·cases hz1
 | some i=>
  rw [hp] at hv
  simp only [Option.map_some,Nat.zero_add]
  simp only at hv
  rw [hv];rfl
theorem KeyOk.pairs (ho:KeyOk E t kt et enc) {h:FHeap} {b:Nat} {l:List α} {vs:List AV} {bs:List Nat} {cl:Nat} (hb:h b = some (.map (l.map enc) vs bs cl)) (x:α):apairs E h t (.map b) (enc x) = some (b,l.map enc,vs,bs,cl,posE x l):=by
 unfold apairs
 rw [ho.und]
 simp only [ho.ty,ho.val,Bool.and_self,cond_true,hb,ho.find]
 cases hp:posE x l with
 | none=>rfl
 | some i=>
  simp only [Option.map_some,Nat.zero_add]
  have:(l.map enc)[i]? = some (enc x):=by rw [List.getElem?_map,posE_some hp];rfl
  rw [this]
  simp only [ho.same,cond_true]
theorem KeyOk.update (ho:KeyOk E t kt et enc) {h:FHeap} {b:Nat} {l:List α} {vs:List AV} {bs:List Nat} {cl:Nat} (hb:h b = some (.map (l.map enc) vs bs cl)) (x:α) (v:AV) :
 amapUpdate E h t (.map b) (enc x) v = some (.set b (match posE x l with|some i=>.map (l.map enc) (vs.set i v) bs cl|none=>.map (l.map enc ++ [enc x]) (vs ++ [v]) (bs ++ [cl]) (cl + 1))):=by
 unfold amapUpdate
 rw [ho.pairs hb x]
 cases posE x l<;>rfl
theorem KeyOk.entry (ho:KeyOk E t kt et enc) {h:FHeap} {b:Nat} {l:List α} {vs:List AV} {bs:List Nat} {cl:Nat} (hb:h b = some (.map (l.map enc) vs bs cl)) (x:α) {r:AV × Eff} {zl:List AV} {d:TypeDesc} {z:AV} (hz:E.zero et = some zl) (hd:E.und et = some d) (hz1:zeroOne d zl = some z)
 (hr:(match posE x l with|some i=>(match vs[i]?,bs[i]? with|some v,some s=>some (.tuple [v,.int .i64 s],Eff.set b (.map (l.map enc) vs bs cl))|_,_=>none)|none=>some (.tuple [z,.int .i64 cl],.set b (.map (l.map enc ++ [enc x]) (vs ++ [z]) (bs ++ [cl]) (cl + 1)))) = some r) :
 amapEntry E h t (.map b) (enc x) = some r:=by
 unfold amapEntry
 rw [ho.pairs hb x]
 cases hp:posE x l with
 | none=>
  rw [hp] at hr
  simp only at hr ⊢
  rw [ho.und]
  simp only [hz,hd,hz1]
  exact hr
 | some i=>
  rw [hp] at hr
  simp only at hr ⊢
  exact hr
end
theorem range_findIdx (n j:Nat) (h:j < n):(List.range n).findIdx? (fun (x:Nat)=>(x:Int) == (j:Int)) = some j:=by
 rw [List.findIdx?_eq_some_iff_getElem]
 refine ⟨by simpa using h,by simp,?_⟩
 intro k hk
 simp
 omega
theorem entryStore_key {h:FHeap} {b:Nat} {ks vs:List AV} {n:Nat} {cl:Nat} {k:IntKind} (hb:h b = some (.map ks vs (List.range n) cl)) {j:Nat} (hj:j < n) (v:AV):aentryStore h (.map b) (.int k j) v = some (.set b (.map ks (vs.set j v) (List.range n) cl)):=by
 unfold aentryStore
 simp only [hb]
 rw [range_findIdx n j hj]
/-! ### the values that a key has collected -/
def atE {α:Type} [DecidableEq α] (x:α) (es:List (α × List Nat)):List Nat:=match posE x (es.map (·.1)) with
 | some j=>(es[j]?.map (·.2)).getD []
 | none=>[]
def addE {α:Type} [DecidableEq α] (es:List (α × List Nat)) (x:α) (i:Nat):List (α × List Nat):=match posE x (es.map (·.1)) with
 | some j=>es.set j (x,atE x es ++ [i])
 | none=>es ++ [(x,[i])]
theorem posE_append {α:Type} [DecidableEq α] {x:α}:∀ (a b:List α),posE x (a ++ b) = (posE x a).or ((posE x b).map (a.length + ·))
 | [],b=>by simp [posE]
 | y :: a,b=>by
  simp only [List.cons_append,posE]
  split
  ·rfl
  ·rw [posE_append a b]
   cases posE x a with
   | some j=>rfl
   | none=>
    cases posE x b with
    | none=>rfl
    | some j=>simp;omega
theorem atE_add {α:Type} [DecidableEq α] (es:List (α × List Nat)) (x y:α) (i:Nat):atE y (addE es x i) = if y = x then atE y es ++ [i] else atE y es:=by
 unfold addE
 cases hp:posE x (es.map (·.1)) with
 | none=>
  simp only
  unfold atE
  rw [List.map_append,posE_append]
  by_cases h:y = x
  ·subst h
   rw [hp]
   simp [posE]
  ·cases hy:posE y (es.map (·.1)) with
   | none=>simp [posE,h]
   | some j=>
    have:=(List.getElem?_eq_some_iff.1 (posE_some hy)).1
    rw [List.length_map] at this
    simp [h,List.getElem?_append_left this]
 | some j=>
  simp only
  have hj:=posE_some hp
  have hjl:j < es.length:=by simpa using (List.getElem?_eq_some_iff.1 hj).1
  have key:∀ X:List Nat,atE y (es.set j (x,X)) = if y = x then X else atE y es:=by
   intro X
   have hk:(es.set j (x,X)).map (·.1) = es.map (·.1):=by
    rw [List.map_set]
    apply List.ext_getElem?
    intro k
    rw [List.getElem?_set]
    by_cases hjk:j = k
    ·subst hjk;rw [if_pos rfl,if_pos (by simpa using hjl),hj]
    ·rw [if_neg hjk]
   unfold atE
   rw [hk]
   by_cases h:y = x
   ·subst h
    rw [hp,if_pos rfl]
    simp [hjl]
   ·rw [if_neg h]
    cases hy:posE y (es.map (·.1)) with
    | none=>rfl
    | some k=>
     have hne:j ≠ k:=by
      intro e;subst e
      have:=posE_some hy
      rw [hj] at this;exact h (Option.some.inj this).symm
     simp only
     rw [List.getElem?_set,if_neg hne]
  rw [key]
  by_cases h:y = x
  ·rw [if_pos h,if_pos h,h]
  ·rw [if_neg h,if_neg h]
end Go.Ax
/- AxMapT: a map of growing slices of numbers, wherever its blocks lie. -/
namespace Go.Ax
def nR (n:Nat):List AV:=[.int .i64 n]
theorem flat_nR (l:List Nat):FlatR (l.map nR):=FlatR.map fun _=>rfl
structure MSl {α:Type} [DecidableEq α] (enc:α → AV) (H:Heap) (c b:Nat) (ids:Nat → Nat) (es:List (α × List Nat)):Prop where
 cell:HeapF H c = some (.row 1 [[.map b]])
 top:HeapF H b = some (.map ((es.map (·.1)).map enc) (es.mapIdx fun j e=>.slice (ids j) 0 e.2.length none) (List.range es.length) es.length)
 sub:∀ (j:Nat) (e:α × List Nat),es[j]? = some e → HeapF H (ids j) = some (.row 1 (e.2.map nR))
 inj:∀ j k,j < es.length → k < es.length → ids j = ids k → j = k
section
variable {α:Type} [DecidableEq α] {enc:α → AV} {H H1:Heap} {R:Nat → Prop} {π:Nat → Option Nat} {c b:Nat} {ids:Nat → Nat} {es:List (α × List Nat)}
def MSl.blocks (c b:Nat) (ids:Nat → Nat) (n:Nat):List Nat:=c :: b :: (List.range n).map ids
theorem MSl.mem_blocks {d n:Nat}:d ∈ MSl.blocks c b ids n ↔ d = c ∨ d = b ∨ ∃ j,j < n ∧ d = ids j:=by
 unfold MSl.blocks
 simp only [List.mem_cons,List.mem_map,List.mem_range]
 constructor
 ·rintro (h|h|⟨j,hj,rfl⟩)
  ·exact .inl h
  ·exact .inr (.inl h)
  ·exact .inr (.inr ⟨j,hj,rfl⟩)
 ·rintro (h|h|⟨j,hj,rfl⟩)
  ·exact .inl h
  ·exact .inr (.inl h)
  ·exact .inr (.inr ⟨j,hj,rfl⟩)
theorem MSl.bc (h:MSl enc H c b ids es):c ≠ b:=by
 intro e;have h1:=h.cell;rw [e,h.top] at h1;cases h1
theorem MSl.sub_c (h:MSl enc H c b ids es) {j:Nat} (hj:j < es.length):ids j ≠ c ∧ ids j ≠ b:=by
 obtain ⟨e,he⟩:∃ e,es[j]? = some e:=⟨_,List.getElem?_eq_getElem hj⟩
 have h1:=h.sub j e he
 refine ⟨fun hh=>?_,fun hh=>?_⟩
 ·rw [hh,h.cell] at h1
  cases hl:e.2 with
  | nil=>rw [hl] at h1;cases h1
  | cons a r=>rw [hl] at h1;cases h1
 ·rw [hh,h.top] at h1;cases h1
theorem MSl.lt (h:MSl enc H c b ids es):∀ d ∈ MSl.blocks c b ids es.length,d < H.length:=by
 intro d hd
 rcases MSl.mem_blocks.1 hd with rfl|rfl|⟨j,hj,rfl⟩
 ·exact heapF_lt h.cell
 ·exact heapF_lt h.top
 ·obtain ⟨e,he⟩:∃ e,es[j]? = some e:=⟨_,List.getElem?_eq_getElem hj⟩
  exact heapF_lt (h.sub j e he)
omit [DecidableEq α] in
theorem refsL_map0 {enc:α → AV} (hf:∀ x,refs (enc x) = []):∀ l:List α,refsL (l.map enc) = []
 | []=>rfl
 | x :: l=>by simp only [List.map_cons,refsL,hf x,refsL_map0 hf l,List.append_nil]
theorem refsL_flatMap:∀ l:List AV,refsL l = l.flatMap refs
 | []=>rfl
 | v :: l=>by simp only [refsL,List.flatMap_cons,refsL_flatMap l]
theorem MSl.top_refs (hf:∀ x,refs (enc x) = []) (h:MSl enc H c b ids es) {d:Nat}:d ∈ refsO (HeapF H b) ↔ ∃ j,j < es.length ∧ d = ids j:=by
 rw [h.top]
 show d ∈ refsL _ ++ refsL _ ↔ _
 rw [refsL_map0 hf,List.nil_append,refsL_flatMap]
 simp only [List.mem_flatMap]
 constructor
 ·rintro ⟨r,hr,hc⟩
  obtain ⟨j,hj⟩:=List.mem_iff_getElem?.1 hr
  rw [List.getElem?_mapIdx] at hj
  cases he:es[j]? with
  | none=>rw [he] at hj;cases hj
  | some e=>
   rw [he] at hj;cases hj
   exact ⟨j,(List.getElem?_eq_some_iff.1 he).1,by simpa [refs] using hc⟩
 ·rintro ⟨j,hj,rfl⟩
  obtain ⟨e,he⟩:∃ e,es[j]? = some e:=⟨_,List.getElem?_eq_getElem hj⟩
  exact ⟨.slice (ids j) 0 e.2.length none,List.mem_iff_getElem?.2 ⟨j,by rw [List.getElem?_mapIdx,he];rfl⟩,by simp [refs]⟩
theorem MSl.closed (hf:∀ x,refs (enc x) = []) (h:MSl enc H c b ids es):∀ d ∈ MSl.blocks c b ids es.length,∀ d' ∈ refsO (HeapF H d),d' ∈ MSl.blocks c b ids es.length:=by
 intro d hd d' hd'
 rw [MSl.mem_blocks] at hd ⊢
 rcases hd with rfl|rfl|⟨j,hj,rfl⟩
 ·rw [h.cell] at hd'
  simp [refsO,refsL,refs] at hd'
  exact .inr (.inl hd')
 ·exact .inr (.inr ((h.top_refs hf).1 hd'))
 ·obtain ⟨e,he⟩:∃ e,es[j]? = some e:=⟨_,List.getElem?_eq_getElem hj⟩
  rw [h.sub j e he,refsO_flat (flat_nR _)] at hd'
  simp at hd'
theorem flatMap_one {β:Type}:∀ (l:List AV) (f:AV → List β),(∀ v ∈ l,(f v).length ≤ 1) → (l.flatMap f).length ≤ l.length
 | [],_,_=>by simp
 | v :: l,f,h=>by
  have h1:=h v (by simp)
  have h2:=flatMap_one l f (fun v hv=>h v (by simp [hv]))
  simp only [List.flatMap_cons,List.length_append,List.length_cons];omega
theorem MSl.cost (hf:∀ x,refs (enc x) = []) (h:MSl enc H c b ids es):((MSl.blocks c b ids es.length).map fun d=>(refsO (HeapF H d)).length).sum ≤ es.length + 1:=by
 unfold MSl.blocks
 have e1:(refsO (HeapF H c)).length = 1:=by rw [h.cell];rfl
 have e3:(refsO (HeapF H b)).length ≤ es.length:=by
  rw [h.top]
  show (refsL _ ++ refsL _).length ≤ _
  rw [refsL_map0 hf,List.nil_append,refsL_flatMap]
  refine Nat.le_trans (flatMap_one _ refs ?_) (by simp)
  intro v hv
  obtain ⟨j,hj⟩:=List.mem_iff_getElem?.1 hv
  rw [List.getElem?_mapIdx] at hj
  cases he:es[j]? with
  | none=>rw [he] at hj;cases hj
  | some e=>rw [he] at hj;cases hj;simp [refs]
 have e4:(((List.range es.length).map ids).map fun c=>(refsO (HeapF H c)).length).sum = 0:=by
  refine sum_zero _ ?_
  intro d hd
  obtain ⟨j,hj,rfl⟩:=List.mem_map.1 hd
  obtain ⟨e,he⟩:∃ e,es[j]? = some e:=⟨_,List.getElem?_eq_getElem (by simpa using hj)⟩
  rw [h.sub j e he];exact refsO_flat (flat_nR _)
 simp only [List.map_cons,List.sum_cons,e1,e4]
 omega
theorem MSl.mv (hf:∀ x,refs (enc x) = []) (h:MSl enc H c b ids es) (hm:Mv H R π H1) (hc:R c):∃ c' b' ids',π c = some c' ∧ π b = some b' ∧ (∀ j,j < es.length → π (ids j) = some (ids' j)) ∧ MSl enc H1 c' b' ids' es:=by
 have hb:R b:=hm.closed c hc b (by rw [h.cell];simp [refsO,refsL,refs])
 have hid:∀ j,j < es.length → R (ids j):=fun j hj=>hm.closed b hb _ ((h.top_refs hf).2 ⟨j,hj,rfl⟩)
 obtain ⟨c',ec⟩:=hm.here c hc
 obtain ⟨b',eb⟩:=hm.here b hb
 have ei:∀ j,j < es.length → π (ids j) = some ((π (ids j)).getD 0):=fun j hj=>by obtain ⟨d,hd⟩:=hm.here _ (hid j hj);rw [hd];rfl
 refine ⟨c',b',fun j=>(π (ids j)).getD 0,ec,eb,ei,?_,?_,?_,?_⟩
 ·rw [hm.heap c c' hc ec,h.cell]
  simp only [Option.map_some,renObj,List.map_cons,List.map_nil,Ax.ren,eb]
 ·rw [hm.heap b b' hb eb,h.top]
  simp only [Option.map_some,renObj]
  congr 2
  ·exact renM_flat π (refsL_map0 hf _)
  ·apply List.ext_getElem?
   intro j
   rw [List.getElem?_map,List.getElem?_mapIdx,List.getElem?_mapIdx]
   cases he:es[j]? with
   | none=>rfl
   | some e=>
    have:=ei j (List.getElem?_eq_some_iff.1 he).1
    simp only [Option.map_some,Ax.ren]
    rw [this];rfl
 ·intro j e he
  have hj:=(List.getElem?_eq_some_iff.1 he).1
  rw [hm.heap _ _ (hid j hj) (ei j hj),h.sub j e he]
  simp only [Option.map_some,renObj,renR_flat π (flat_nR _)]
 ·intro j k hj hk e
  have e1:=ei j hj
  have e2:=ei k hk
  rw [e] at e1
  exact h.inj j k hj hk (hm.inj _ _ _ e1 e2)
theorem MSl.same (h:MSl enc H c b ids es) (h1:∀ d ∈ MSl.blocks c b ids es.length,HeapF H1 d = HeapF H d):MSl enc H1 c b ids es:=
 ⟨by rw [h1 c (MSl.mem_blocks.2 (.inl rfl)),h.cell],by rw [h1 b (MSl.mem_blocks.2 (.inr (.inl rfl))),h.top],fun j e he=>by
  rw [h1 (ids j) (MSl.mem_blocks.2 (.inr (.inr ⟨j,(List.getElem?_eq_some_iff.1 he).1,rfl⟩))),h.sub j e he],h.inj⟩
theorem MSl.more {L:Heap} (h:MSl enc H c b ids es):MSl enc (H ++ L) c b ids es:=h.same fun d hd=>heapF_lo (eq_true (h.lt d hd))
def MSl.obj (enc:α → AV) (ids:Nat → Nat) (es:List (α × List Nat)) (x:α) (n:Nat):AObj:=match posE x (es.map (·.1)) with
 | some j=>.map ((es.map (·.1)).map enc) ((es.mapIdx fun j e=>AV.slice (ids j) 0 e.2.length none).set j (.slice n 0 ((atE x es).length + 1) none)) (List.range es.length) es.length
 | none=>.map ((es.map (·.1)).map enc ++ [enc x]) ((es.mapIdx fun j e=>AV.slice (ids j) 0 e.2.length none) ++ [.slice n 0 ((atE x es).length + 1) none]) (List.range es.length ++ [es.length]) (es.length + 1)
theorem MSl.add (h:MSl enc H c b ids es) (x:α) (i n:Nat) (hn:H.length ≤ n) (h1:HeapF H1 b = some (MSl.obj enc ids es x n)) (h2:HeapF H1 n = some (.row 1 ((atE x es ++ [i]).map nR)))
 (h3:∀ d,d < H.length → d ≠ b → (∀ j,posE x (es.map (·.1)) = some j → d ≠ ids j) → HeapF H1 d = HeapF H d) :
 ∃ ids',MSl enc H1 c b ids' (addE es x i) ∧ (∀ j,j < (addE es x i).length → ids' j = n ∨ (j < es.length ∧ ids' j = ids j)) ∧ (addE es x i).length ≤ es.length + 1:=by
 have hlt:=h.lt
 have hidl:∀ j,j < es.length → ids j < H.length:=fun j hj=>hlt _ (MSl.mem_blocks.2 (.inr (.inr ⟨j,hj,rfl⟩)))
 have hcl:=heapF_lt h.cell
 have hcc:HeapF H1 c = HeapF H c:=h3 c hcl h.bc (fun j hj=>by
  have hjl:j < es.length:=by simpa using (List.getElem?_eq_some_iff.1 (posE_some hj)).1
  exact Ne.symm (h.sub_c hjl).1)
 unfold MSl.obj at h1
 unfold addE
 cases hp:posE x (es.map (·.1)) with
 | none=>
  rw [hp] at h1
  have hat:atE x es = []:=by unfold atE;rw [hp]
  simp only [hat,List.length_nil,Nat.zero_add,List.nil_append] at h1 h2 ⊢
  refine ⟨fun j=>if j = es.length then n else ids j,⟨by rw [hcc,h.cell],?_,?_,?_⟩,?_,by simp⟩
  ·rw [h1]
   congr 2
   ·simp
   ·apply List.ext_getElem?
    intro j
    rw [List.getElem?_mapIdx]
    by_cases hj:j < es.length
    ·rw [List.getElem?_append_left (by simpa using hj),List.getElem?_append_left hj,List.getElem?_mapIdx,List.getElem?_eq_getElem hj]
     simp [show j ≠ es.length by omega]
    ·by_cases hj2:j = es.length
     ·subst hj2;simp
     ·rw [List.getElem?_eq_none (by simp;omega),List.getElem?_eq_none (by simp;omega)];rfl
   ·simp [List.range_succ]
   ·simp
  ·intro j e he
   by_cases hj:j < es.length
   ·rw [List.getElem?_append_left hj] at he
    simp only [if_neg (show j ≠ es.length by omega)]
    rw [h3 _ (hidl j hj) (h.sub_c hj).2 (fun k hk=>by rw [hp] at hk;cases hk),h.sub j e he]
   ·have hj2:j = es.length:=by
     have:=(List.getElem?_eq_some_iff.1 he).1
     simp at this;omega
    subst hj2
    simp at he
    subst he
    simp only [if_true]
    rw [h2]
  ·intro j k hj hk e
   simp only [List.length_append,List.length_singleton] at hj hk
   by_cases h1:j = es.length<;>by_cases h2:k = es.length
   ·omega
   ·simp only [h1,if_true,if_neg h2] at e
    have:=hidl k (by omega);omega
   ·simp only [h2,if_true,if_neg h1] at e
    have:=hidl j (by omega);omega
   ·simp only [if_neg h1,if_neg h2] at e
    exact h.inj j k (by omega) (by omega) e
  ·intro j hj
   simp only [List.length_append,List.length_singleton] at hj
   by_cases h1:j = es.length
   ·exact .inl (if_pos h1)
   ·exact .inr ⟨by omega,if_neg h1⟩
 | some q=>
  rw [hp] at h1
  have hq:=posE_some hp
  have hql:q < es.length:=by simpa using (List.getElem?_eq_some_iff.1 hq).1
  simp only at h1 ⊢
  refine ⟨fun j=>if j = q then n else ids j,⟨by rw [hcc,h.cell],?_,?_,?_⟩,?_,by simp⟩
  ·rw [h1]
   congr 2
   ·congr 1
    rw [List.map_set]
    apply List.ext_getElem?
    intro k
    rw [List.getElem?_set]
    by_cases hjk:q = k
    ·subst hjk;rw [if_pos rfl,if_pos (by simpa using hql),hq]
    ·rw [if_neg hjk]
   ·apply List.ext_getElem?
    intro j
    rw [List.getElem?_set,List.getElem?_mapIdx,List.getElem?_mapIdx,List.getElem?_set,List.length_mapIdx]
    by_cases hjq:q = j
    ·subst hjq;simp [hql]
    ·rw [if_neg hjq,if_neg hjq]
     simp only [if_neg (Ne.symm hjq)]
   ·rw [List.length_set]
   ·rw [List.length_set]
  ·intro j e he
   rw [List.getElem?_set] at he
   by_cases hjq:q = j
   ·subst hjq
    rw [if_pos rfl,if_pos hql] at he
    cases he
    simp only [if_true]
    exact h2
   ·rw [if_neg hjq] at he
    have hj:=(List.getElem?_eq_some_iff.1 he).1
    simp only [if_neg (Ne.symm hjq)]
    rw [h3 _ (hidl j hj) (h.sub_c hj).2 (fun k hk=>by
     rw [hp] at hk;cases hk
     intro e;exact hjq (h.inj j q hj hql e).symm),h.sub j e he]
  ·intro j k hj hk e
   rw [List.length_set] at hj hk
   by_cases h1:j = q<;>by_cases h2:k = q
   ·omega
   ·simp only [h1,if_true,if_neg h2] at e
    have:=hidl k (by omega);omega
   ·simp only [h2,if_true,if_neg h1] at e
    have:=hidl j (by omega);omega
   ·simp only [if_neg h1,if_neg h2] at e
    exact h.inj j k (by omega) (by omega) e
  ·intro j hj
   rw [List.length_set] at hj
   by_cases h1:j = q
   ·exact .inl (if_pos h1)
   ·exact .inr ⟨hj,if_neg h1⟩
end
section
variable {α:Type} [DecidableEq α] {E:Env} {t kt et:TypeId} {enc:α → AV}
def imapV (enc:α → AV) (es:List (α × List Nat)):AV:=.imap ((es.map (·.1)).map enc) (es.map fun e=>.islice (e.2.map nR) none) (List.range es.length) es.length
theorem KeyOk.ilook (ho:KeyOk E t kt et enc) {zl:List AV} {d:TypeDesc} (hz:E.zero et = some zl) (hd:E.und et = some d) (hz1:zeroOne d zl = some .nilslice) (es:List (α × List Nat)) (x:α) :
 ∃ rr:Option (Option Nat),∀ h,alookup E h t (imapV enc es) (enc x) false = some (sl rr ((atE x es).map nR)):=by
 cases hp:posE x (es.map (·.1)) with
 | none=>
  refine ⟨none,fun h=>?_⟩
  have e:atE x es = []:=by unfold atE;rw [hp]
  rw [e]
  exact ho.lookup hz hd hz1 (l:=es.map (·.1)) (vs:=es.map fun e=>.islice (e.2.map nR) none) rfl x (by rw [hp];rfl)
 | some j=>
  refine ⟨some none,fun h=>?_⟩
  have hjl:j < es.length:=by simpa using (List.getElem?_eq_some_iff.1 (posE_some hp)).1
  have e:atE x es = es[j].2:=by unfold atE;rw [hp];simp [List.getElem?_eq_getElem hjl]
  rw [e]
  refine ho.lookup hz hd hz1 (l:=es.map (·.1)) (vs:=es.map fun e=>.islice (e.2.map nR) none) rfl x ?_
  rw [hp]
  simp only
  rw [List.getElem?_map,List.getElem?_eq_getElem hjl,Option.map_some,sl_some]
theorem KeyOk.look (ho:KeyOk E t kt et enc) {zl:List AV} {d:TypeDesc} (hz:E.zero et = some zl) (hd:E.und et = some d) (hz1:zeroOne d zl = some .nilslice) {h:FHeap} {b:Nat} {ids:Nat → Nat} {es:List (α × List Nat)} (hb:h b = some (.map ((es.map (·.1)).map enc) (es.mapIdx fun j e=>.slice (ids j) 0 e.2.length none) (List.range es.length) es.length)) (x:α) :
 alookup E h t (.map b) (enc x) false = some (match posE x (es.map (·.1)) with|some j=>.slice (ids j) 0 (atE x es).length none|none=>.nilslice):=by
 have hm:amapOf h (.map b) = some ((es.map (·.1)).map enc,es.mapIdx fun j e=>.slice (ids j) 0 e.2.length none):=by unfold amapOf;simp only [hb]
 refine ho.lookup hz hd hz1 hm x ?_
 cases hp:posE x (es.map (·.1)) with
 | none=>rfl
 | some j=>
  have hjl:j < es.length:=by simpa using (List.getElem?_eq_some_iff.1 (posE_some hp)).1
  have e:atE x es = es[j].2:=by unfold atE;rw [hp];simp [List.getElem?_eq_getElem hjl]
  simp only
  rw [List.getElem?_mapIdx,List.getElem?_eq_getElem hjl,Option.map_some,e]
end
section
variable {α:Type} [DecidableEq α] {enc:α → AV} {H:Heap} {c b:Nat} {ids:Nat → Nat} {es:List (α × List Nat)}
theorem frzL_map {m:Nat} {d:AV → Option AV}:∀ (vs out:List AV),vs.length = out.length → (∀ (j:Nat) r o,vs[j]? = some r → out[j]? = some o → frzV m false d r = some o) → frzL m false d vs = some out
 | [],out,hl,_=>by cases out with|nil=>rfl|cons=>simp at hl
 | r :: rows,[],hl,_=>by simp at hl
 | r :: rows,o :: out,hl,hh=>by
  rw [frzL_cons,hh 0 r o rfl rfl]
  simp only [obind]
  rw [frzL_map rows out (by simpa using hl) (fun j r o hr ho=>hh (j + 1) r o (by simpa using hr) (by simpa using ho))]
theorem MSl.frz (hf:∀ x,refs (enc x) = []) (h:MSl enc H c b ids es) (n:Nat):frzD (HeapF H) 0 (n + 3) (.ptr c 0 0) = some (.iptr [imapV enc es]):=by
 have hmap:frzD (HeapF H) 0 (n + 2) (.map b) = some (imapV enc es):=by
  show (match HeapF H b with
   | some (.map ks vs bs cl)=>match frzL 0 false (frzD (HeapF H) 0 (n + 1)) ks,frzL 0 false (frzD (HeapF H) 0 (n + 1)) vs with
    | some ks,some vs=>some (AV.imap ks vs bs cl)
    | _,_=>none
   | _=>none) = _
  rw [h.top]
  simp only
  rw [frzL_flat 0 false _ _ (refsL_map0 hf _)]
  rw [frzL_map _ (es.map fun e=>.islice (e.2.map nR) none) (by simp)]
  ·rfl
  ·intro j r o hr ho
   rw [List.getElem?_mapIdx] at hr
   rw [List.getElem?_map] at ho
   cases he:es[j]? with
   | none=>rw [he] at hr;cases hr
   | some e=>
    rw [he] at hr ho
    cases hr;cases ho
    rw [frz_slice,decide_eq_false (Nat.not_lt_zero _),cond_false,frzD_slice (eq_true (by omega:0 < n + 1)),h.sub j e he]
    simp only [rowO,obind,List.drop_zero,Nat.zero_add,List.length_map]
    rw [decide_eq_true (Nat.le_refl _),cond_true,List.take_of_length_le (by simp),frzR_flat _ _ (flat_nR _)]
 rw [frzD_ptr (eq_true (by omega:0 < n + 3)),h.cell]
 simp only [rowO,obind,List.getElem?_cons_zero,List.drop_zero]
 rw [frzL_cons,frzL_nil,frz_map,decide_eq_false (Nat.not_lt_zero _),cond_false]
 show obind (obind (frzD (HeapF H) 0 (n + 2) (.map b)) _) _ = _
 rw [hmap]
 rfl
theorem frzD_cell {n:Nat} {v v':AV} (h:HeapF H c = some (.row 1 [[v]])) (hv:frzV 0 false (frzD (HeapF H) 0 n) v = some v'):frzD (HeapF H) 0 (n + 1) (.ptr c 0 0) = some (.iptr [v']):=by
 rw [frzD_ptr (eq_true (by omega:0 < n + 1)),h]
 simp only [rowO,obind,List.getElem?_cons_zero,List.drop_zero]
 show obind (frzL 0 false (frzD (HeapF H) 0 n) [v]) _ = _
 rw [frzL_cons,frzL_nil,hv]
 rfl
end
end Go.Ax
