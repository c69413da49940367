/- AxTab: a table of rows of words in blocks, wherever they lie; heads of loops and calls over it. -/
import Derived.Test.YtllalbnibhofiaaGreatDoorAxE
set_option linter.unusedSimpArgs false
set_option linter.unusedVariables false
namespace Go.Ax
def amc (w:BitVec 64):List AV:=[u64 w]
structure Mv (H:aa4) (R:Nat → Prop) (π:Nat → Option Nat) (H1:aa4):Prop where
 inj:∀ a b c,π a = some c → π b = some c → a = b
 closed:∀ b,R b → ∀ c ∈ aas (aa2 H b),R c
 here:∀ b,R b → ∃ c,π b = some c
 heap:∀ b c,R b → π b = some c → aa2 H1 c = (aa2 H b).map (aat π)
theorem Gc.mv {m:Nat} {F:Frm} {H H1:aa4} {R:Nat → Prop} {π:Nat → Option Nat} (g:Gc m F H R π H1):Mv H R π H1:=⟨g.inj,g.closed,g.here,fun b c _ h=>g.heap b c h⟩
structure Tbl (H:aa4) (a b q:Nat) (ids:Nat → Nat) (w:Nat) (fo:List (List (BitVec 64))) (from':Int):Prop where
 out:aa2 H a = some (.row 1 [[.slice b 0 fo.length (some fo.length)]])
 top:aa2 H b = some (.row 1 ((List.range fo.length).map fun j=>[.slice (ids j) 0 w (some w)]))
 sub:∀ (j:Nat) (f:List (BitVec 64)),fo[j]? = some f → aa2 H (ids j) = some (.row 1 (f.map amc)) ∧ ids j ≠ a ∧ ids j ≠ b ∧ ids j ≠ q ∧ f.length = w
 frm:aa2 H q = some (.row 1 [[.int .i64 from']])
 ab:a ≠ b
 aq:a ≠ q
 bq:b ≠ q
 inj:∀ i j,i < fo.length → j < fo.length → ids i = ids j → i = j
theorem as5 (l:List (BitVec 64)):FlatR (l.map amc):=FlatR.map fun _=>rfl
section
variable {H H1:aa4} {R:Nat → Prop} {π:Nat → Option Nat} {a b q:Nat} {ids:Nat → Nat} {w:Nat} {fo:List (List (BitVec 64))} {fr:Int}
theorem Tbl.top_refs (h:Tbl H a b q ids w fo fr) {c:Nat}:c ∈ aas (aa2 H b) ↔ ∃ j,j < fo.length ∧ c = ids j:=by
 rw [h.top]
 show c ∈ ((List.range fo.length).map fun j=>[AV.slice (ids j) 0 w (some w)]).flatMap aab ↔ _
 simp only [List.mem_flatMap,List.mem_map,List.mem_range]
 constructor
 ·rintro ⟨r,⟨j,hj,rfl⟩,hc⟩
  exact ⟨j,hj,by simpa [aab,refs] using hc⟩
 ·rintro ⟨j,hj,rfl⟩
  exact ⟨_,⟨j,hj,rfl⟩,by simp [aab,refs]⟩
theorem Tbl.mv (h:Tbl H a b q ids w fo fr) (hm:Mv H R π H1) (ha:R a) (hq:R q):∃ a' b' q' ids',π a = some a' ∧ π b = some b' ∧ π q = some q' ∧ (∀ j,j < fo.length → π (ids j) = some (ids' j)) ∧ Tbl H1 a' b' q' ids' w fo fr:=by
 have hb:R b:=hm.closed a ha b (by rw [h.out];simp [aas,aab,refs])
 have hid:∀ j,j < fo.length → R (ids j):=fun j hj=>hm.closed b hb _ (h.top_refs.2 ⟨j,hj,rfl⟩)
 obtain ⟨a',ea⟩:=hm.here a ha
 obtain ⟨b',eb⟩:=hm.here b hb
 obtain ⟨q',eq⟩:=hm.here q hq
 have ei:∀ j,j < fo.length → π (ids j) = some ((π (ids j)).getD 0):=fun j hj=>by obtain ⟨c,hc⟩:=hm.here _ (hid j hj);rw [hc];rfl
 refine ⟨a',b',q',fun j=>(π (ids j)).getD 0,ea,eb,eq,ei,?_,?_,?_,?_,?_,?_,?_,?_⟩
 ·rw [hm.heap a a' ha ea,h.out]
  simp only [Option.map_some,aat,List.map_cons,List.map_nil,Ax.ren,eb]
 ·rw [hm.heap b b' hb eb,h.top]
  simp only [Option.map_some,aat,List.map_map]
  congr 2
  refine List.map_congr_left fun j hj=>?_
  have:=ei j (by simpa using hj)
  simp only [Function.comp,List.map_cons,List.map_nil,Ax.ren]
  rw [this];rfl
 ·intro j f hf
  obtain ⟨g1,g2,g3,g4,g5⟩:=h.sub j f hf
  have hj:j < fo.length:=(List.getElem?_eq_some_iff.1 hf).1
  have e:=ei j hj
  refine ⟨?_,?_,?_,?_,g5⟩
  ·rw [hm.heap _ _ (hid j hj) e,g1]
   simp only [Option.map_some,aat,aae π (as5 f)]
  ·intro he;rw [he] at e;exact g2 (hm.inj _ _ _ e ea)
  ·intro he;rw [he] at e;exact g3 (hm.inj _ _ _ e eb)
  ·intro he;rw [he] at e;exact g4 (hm.inj _ _ _ e eq)
 ·rw [hm.heap q q' hq eq,h.frm];rfl
 ·intro e;subst e;exact h.ab (hm.inj _ _ _ ea eb)
 ·intro e;subst e;exact h.aq (hm.inj _ _ _ ea eq)
 ·intro e;subst e;exact h.bq (hm.inj _ _ _ eb eq)
 ·intro i j hi hj e
  have e1:=ei i hi
  have e2:=ei j hj
  rw [e] at e1
  exact h.inj i j hi hj (hm.inj _ _ _ e1 e2)
theorem Tbl.put (h:Tbl H a b q ids w fo fr) {i k:Nat} {f:List (BitVec 64)} {x:BitVec 64} (hf:fo[i]? = some f):Tbl (H.set (ids i) (some (.row 1 ((f.set k x).map amc)))) a b q ids w (fo.set i (f.set k x)) fr:=by
 obtain ⟨g1,g2,g3,g4,g5⟩:=h.sub i f hf
 have hi:i < fo.length:=(List.getElem?_eq_some_iff.1 hf).1
 have hil:=aac g1
 refine ⟨?_,?_,?_,?_,h.ab,h.aq,h.bq,?_⟩
 ·rw [adh g2,h.out,List.length_set]
 ·rw [adh g3,h.top,List.length_set]
 ·intro j f' hf'
  rw [List.getElem?_set] at hf'
  by_cases hij:i = j
  ·subst hij
   simp only [if_true,hi,Option.some.injEq] at hf'
   subst hf'
   exact ⟨alz hil,g2,g3,g4,by rw [List.length_set];exact g5⟩
  ·rw [if_neg hij] at hf'
   obtain ⟨k1,k2,k3,k4,k5⟩:=h.sub j f' hf'
   refine ⟨?_,k2,k3,k4,k5⟩
   rw [adh,k1]
   intro e
   exact hij (h.inj i j hi (List.getElem?_eq_some_iff.1 hf').1 e)
 ·rw [adh g4,h.frm]
 ·intro i' j hi' hj;rw [List.length_set] at hi' hj;exact h.inj i' j hi' hj
theorem Tbl.same (h:Tbl H a b q ids w fo fr) (h1:∀ c,(c = a ∨ c = b ∨ c = q ∨ ∃ j,j < fo.length ∧ c = ids j) → aa2 H1 c = aa2 H c):Tbl H1 a b q ids w fo fr:=
 ⟨by rw [h1 a (.inl rfl),h.out],by rw [h1 b (.inr (.inl rfl)),h.top],fun j f hf=>by
  obtain ⟨g1,g2⟩:=h.sub j f hf
  exact ⟨by rw [h1 (ids j) (.inr (.inr (.inr ⟨j,(List.getElem?_eq_some_iff.1 hf).1,rfl⟩))),g1],g2⟩,by rw [h1 q (.inr (.inr (.inl rfl))),h.frm],h.ab,h.aq,h.bq,h.inj⟩
theorem Tbl.more {L:aa4} (h:Tbl H a b q ids w fo fr):Tbl (H ++ L) a b q ids w fo fr:=by
 refine h.same fun c hc=>ada (eq_true ?_)
 rcases hc with rfl|rfl|rfl|⟨j,hj,rfl⟩
 ·exact aac h.out
 ·exact aac h.top
 ·exact aac h.frm
 ·obtain ⟨f,hf⟩:∃ f,fo[j]? = some f:=⟨_,List.getElem?_eq_getElem hj⟩
  exact aac (h.sub j f hf).1
def Tbl.blocks (a b q:Nat) (ids:Nat → Nat) (n:Nat):List Nat:=a :: b :: q :: (List.range n).map ids
theorem Tbl.mem_blocks {c n:Nat}:c ∈ Tbl.blocks a b q ids n ↔ c = a ∨ c = b ∨ c = q ∨ ∃ j,j < n ∧ c = ids j:=by
 unfold Tbl.blocks
 simp only [List.mem_cons,List.mem_map,List.mem_range]
 constructor
 ·rintro (h|h|h|⟨j,hj,rfl⟩)
  ·exact .inl h
  ·exact .inr (.inl h)
  ·exact .inr (.inr (.inl h))
  ·exact .inr (.inr (.inr ⟨j,hj,rfl⟩))
 ·rintro (h|h|h|⟨j,hj,rfl⟩)
  ·exact .inl h
  ·exact .inr (.inl h)
  ·exact .inr (.inr (.inl h))
  ·exact .inr (.inr (.inr ⟨j,hj,rfl⟩))
theorem Tbl.closed (h:Tbl H a b q ids w fo fr):∀ c ∈ Tbl.blocks a b q ids fo.length,∀ d ∈ aas (aa2 H c),d ∈ Tbl.blocks a b q ids fo.length:=by
 intro c hc d hd
 rw [Tbl.mem_blocks] at hc ⊢
 rcases hc with rfl|rfl|rfl|⟨j,hj,rfl⟩
 ·rw [h.out] at hd
  simp [aas,aab,refs] at hd
  exact .inr (.inl hd)
 ·obtain ⟨j,hj,rfl⟩:=h.top_refs.1 hd
  exact .inr (.inr (.inr ⟨j,hj,rfl⟩))
 ·rw [h.frm] at hd
  simp [aas,aab,refs] at hd
 ·obtain ⟨f,hf⟩:∃ f,fo[j]? = some f:=⟨_,List.getElem?_eq_getElem hj⟩
  rw [(h.sub j f hf).1,aad (as5 f)] at hd
  simp at hd
theorem Tbl.cost (h:Tbl H a b q ids w fo fr):((Tbl.blocks a b q ids fo.length).map fun c=>(aas (aa2 H c)).length).sum ≤ fo.length + 1:=by
 unfold Tbl.blocks
 have e1:(aas (aa2 H a)).length = 1:=by rw [h.out];rfl
 have e2:(aas (aa2 H q)).length = 0:=by rw [h.frm];rfl
 have e3:(aas (aa2 H b)).length = fo.length:=by
  rw [h.top]
  have hlen:∀ l:List Nat,((l.map fun j=>[AV.slice (ids j) 0 w (some w)]).flatMap aab).length = l.length:=by
   intro l;induction l with
   | nil=>rfl
   | cons x l ih=>simp only [List.map_cons,List.flatMap_cons,List.length_append,ih,List.length_cons];simp [aab,refs];omega
  have:=hlen (List.range fo.length)
  rw [List.length_range] at this
  exact this
 have e4:(((List.range fo.length).map ids).map fun c=>(aas (aa2 H c)).length).sum = 0:=by
  refine ak4 _ ?_
  intro c hc
  obtain ⟨j,hj,rfl⟩:=List.mem_map.1 hc
  obtain ⟨f,hf⟩:∃ f,fo[j]? = some f:=⟨_,List.getElem?_eq_getElem (by simpa using hj)⟩
  rw [(h.sub j f hf).1];exact aad (as5 f)
 simp only [List.map_cons,List.sum_cons,e1,e2,e3,e4]
 omega
end
/-! ### calls, wherever the blocks lie -/
theorem anb {H:aa4} {σ:List Nat} (hn:σ.Nodup) {b:Nat} (hb:b ∈ σ):∃ j,af4 σ b = some j ∧ σ[j]? = some b ∧ aa2 (abz H σ (af4 σ)) j = (aa2 H b).map (aat (af4 σ)):=by
 obtain ⟨j,hj⟩:=List.mem_iff_getElem?.1 hb
 refine ⟨j,act hn hj,hj,?_⟩
 unfold abz aa2
 rw [List.getElem?_map,hj];rfl
theorem biv {H H1:aa4} {σ:List Nat} {n b j:Nat} (hn:σ.Nodup) (hj:σ[j]? = some b) (hb:b < H.length):aa2 (aax σ n H1 0 H) b = (aa2 H1 j).map (aat (abt σ n)):=by
 unfold aa2
 rw [agp,List.getElem?_eq_getElem hb,Nat.zero_add,act hn hj]
 rfl
theorem av8 {H H1:aa4} {σ:List Nat} {n b:Nat} (hb:b ∉ σ):aa2 (aax σ n H1 0 H) b = aa2 H b:=by
 unfold aa2
 rw [agp,Nat.zero_add]
 have:σ.idxOf? b = none:=by
  cases h:σ.idxOf? b with
  | none=>rfl
  | some j=>exact absurd (List.mem_of_getElem? (abg h)) hb
 rw [this]
 cases H[b]?<;>rfl
theorem ahq {σ:List Nat} {n:Nat} {H1:aa4}:∀ (s:Nat) (H:aa4),(aax σ n H1 s H).length = H.length
 | _,[]=>rfl
 | s,o :: H=>by simp [aax,ahq (s + 1) H]
theorem ars {H:aa4} {init σ:List Nat} (hr:Reached H init σ):Mv H (·∈ σ) (af4 σ) (abz H σ (af4 σ)):=by
 refine ⟨?_,hr.closed,fun b hb=>?_,fun b c hb hc=>?_⟩
 ·intro a b c ha hb
  have h1:=abg ha
  have h2:=abg hb
  rw [h1] at h2;exact Option.some.inj h2
 ·obtain ⟨j,hj,_⟩:=anb (H:=H) hr.nodup hb;exact ⟨j,hj⟩
 ·obtain ⟨j,hj,_,e⟩:=anb (H:=H) hr.nodup hb
  rw [hj] at hc;cases hc;exact e
theorem avg {H H1:aa4} {σ:List Nat} (hn:σ.Nodup) (hl:∀ b ∈ σ,b < H.length) (R:Nat → Prop) (hR:∀ j,R j → j < σ.length) (hc:∀ j,R j → ∀ c ∈ aas (aa2 H1 j),R c):Mv H1 R (abt σ H.length) (aax σ H.length H1 0 H):=by
 have hb:∀ j,j < σ.length → abt σ H.length j = σ[j]?:=fun j hj=>by
  unfold abt;rw [show Nat.blt j σ.length = true by rw [Nat.blt_eq];exact hj];rfl
 have hge:∀ j,¬ j < σ.length → abt σ H.length j = some (H.length + (j - σ.length)):=fun j hj=>by
  unfold abt
  have:Nat.blt j σ.length = false:=by rw [Bool.eq_false_iff];intro h;rw [Nat.blt_eq] at h;exact hj h
  rw [this];rfl
 refine ⟨?_,hc,fun j hj=>?_,fun j c hj hjc=>?_⟩
 ·intro x y c hx hy
  by_cases h1:x < σ.length<;>by_cases h2:y < σ.length
  ·rw [hb x h1] at hx;rw [hb y h2] at hy
   exact (List.getElem?_inj h1 hn).1 (hx.trans hy.symm)
  ·rw [hb x h1] at hx;rw [hge y h2] at hy
   have:=hl c (List.mem_of_getElem? hx)
   cases hy;omega
  ·rw [hge x h1] at hx;rw [hb y h2] at hy
   have:=hl c (List.mem_of_getElem? hy)
   cases hx;omega
  ·rw [hge x h1] at hx;rw [hge y h2] at hy
   cases hx;simp only [Option.some.injEq] at hy;omega
 ·rw [hb j (hR j hj)];exact ⟨_,List.getElem?_eq_getElem (hR j hj)⟩
 ·rw [hb j (hR j hj)] at hjc
  exact biv hn hjc (hl c (List.mem_of_getElem? hjc))
theorem afh {σ:List Nat} {n b j:Nat} (hj:af4 σ b = some j):abt σ n j = some b:=by
 have h:=abg hj
 have hl:=(List.getElem?_eq_some_iff.1 h).1
 unfold abt
 rw [show Nat.blt j σ.length = true by rw [Nat.blt_eq];exact hl]
 exact h
theorem ajx (run:List AV → aa4 → Option (AV × aa4)) (args:List AV) (H:aa4) (S:List Nat) (h1:∀ b ∈ aab args,b ∈ S) (h2:∀ b ∈ S,∀ c ∈ aas (aa2 H b),c ∈ S) (h3:∀ b ∈ S,b < H.length)
 (hn:(aab args).length + (S.map fun b=>(aas (aa2 H b)).length).sum < 1000000) :
 ∃ σ:List Nat,Reached H (aab args) σ ∧ (∀ b ∈ σ,b < H.length) ∧ ∀ v H1,run (args.map (ren (af4 σ))) (abz H σ (af4 σ)) = some (v,H1) →
  adw run args H = some (ren (abt σ H.length) v,aax σ H.length H1 0 H ++ (H1.drop σ.length).map (Option.map (aat (abt σ H.length))),σ):=by
 have hr:=aq5 (H:=H) (init:=aab args) S h1 h2 hn
 have hlt:∀ b ∈ acv H 1000000 (aab args) [],b < H.length:=fun b hb=>h3 b (hr.least (·∈ S) h1 h2 b hb)
 refine ⟨_,hr,hlt,fun v H1 hrun=>?_⟩
 exact acd run args H rfl (akc hr.nodup) (by rw [List.all_eq_true];intro b hb;simpa using hlt b hb) rfl rfl hrun
end Go.Ax
/- AxTab2: a table that a call has been given: heads of loops and calls that write it. -/
namespace Go.Ax
section
variable {H H1:aa4} {a b q:Nat} {ids:Nat → Nat} {w:Nat} {fo:List (List (BitVec 64))} {fr:Int}
theorem Tbl.congr {ids':Nat → Nat} (h:Tbl H a b q ids' w fo fr) (he:∀ j,j < fo.length → ids' j = ids j):Tbl H a b q ids w fo fr:=by
 refine ⟨h.out,?_,?_,h.frm,h.ab,h.aq,h.bq,?_⟩
 ·rw [h.top];congr 2
  refine List.map_congr_left fun j hj=>?_
  rw [he j (by simpa using hj)]
 ·intro j f hf
  have:=h.sub j f hf
  rwa [he j (List.getElem?_eq_some_iff.1 hf).1] at this
 ·intro i j hi hj e
  exact h.inj i j hi hj (by rw [he i hi,he j hj];exact e)
theorem Tbl.stay {R:Nat → Prop} {π:Nat → Option Nat} (h:Tbl H a b q ids w fo fr) (hm:Mv H R π H1) (ha:R a) (hq:R q) (hπ:∀ c ∈ Tbl.blocks a b q ids fo.length,π c = some c):Tbl H1 a b q ids w fo fr:=by
 obtain ⟨a',b',q',ids',e1,e2,e3,e4,ht⟩:=h.mv hm ha hq
 rw [hπ a (Tbl.mem_blocks.2 (.inl rfl))] at e1
 rw [hπ b (Tbl.mem_blocks.2 (.inr (.inl rfl)))] at e2
 rw [hπ q (Tbl.mem_blocks.2 (.inr (.inr (.inl rfl))))] at e3
 cases e1;cases e2;cases e3
 refine ht.congr fun j hj=>?_
 have:=e4 j hj
 rw [hπ (ids j) (Tbl.mem_blocks.2 (.inr (.inr (.inr ⟨j,hj,rfl⟩))))] at this
 exact (Option.some.inj this).symm
structure TSt (H:aa4) (m a b q:Nat) (ids:Nat → Nat) (w:Nat) (fo:List (List (BitVec 64))) (fr:Int):Prop where
 tbl:Tbl H a b q ids w fo fr
 lowf:∀ c,c < m → c ∈ Tbl.blocks a b q ids fo.length ∨ aas (aa2 H c) = []
 bnd:∀ c ∈ Tbl.blocks a b q ids fo.length,c < m
mutual
theorem asx {m:Nat} {π:Nat → Option Nat} (hπ:∀ c,c < m → π c = some c):∀ (v:AV),(∀ c ∈ refs v,c < m) → ren π v = v
 | .ptr b i o,h=>by simp only [ren,hπ b (h b (by simp [refs]))]
 | .slice b o l c,h=>by simp only [ren,hπ b (h b (by simp [refs]))]
 | .map b,h=>by simp only [ren,hπ b (h b (by simp [refs]))]
 | .func fn fs cs,h=>by
  simp only [refs,List.mem_append] at h
  simp only [ren,afq hπ fs (fun c hc=>h c (.inl hc)),afq hπ cs (fun c hc=>h c (.inr hc))]
 | .iface t x,h=>by simp only [refs] at h;simp only [ren,asx hπ x h]
 | .agg cs,h=>by simp only [refs] at h;simp only [ren,afq hπ cs h]
 | .tuple cs,h=>by simp only [refs] at h;simp only [ren,afq hπ cs h]
 | .junk,_|.bool _,_|.int ..,_|.str _,_|.nilptr,_|.nilslice,_|.nilmap,_|.nilfunc,_|.nilifc,_|.iptr _,_|.islice ..,_|.imap ..,_=>rfl
theorem afq {m:Nat} {π:Nat → Option Nat} (hπ:∀ c,c < m → π c = some c):∀ (l:List AV),(∀ c ∈ aab l,c < m) → ard π l = l
 | [],_=>rfl
 | v :: vs,h=>by
  simp only [aab,List.mem_append] at h
  simp only [ard,asx hπ v (fun c hc=>h c (.inl hc)),afq hπ vs (fun c hc=>h c (.inr hc))]
end
theorem aj2 {m:Nat} {π:Nat → Option Nat} (hπ:∀ c,c < m → π c = some c) (l:List AV) (h:∀ c ∈ aab l,c < m):l.map (ren π) = l:=by rw [← aii];exact afq hπ l h
theorem aj1 {m:Nat} {π:Nat → Option Nat} (hπ:∀ c,c < m → π c = some c) (o:AObj) (h:∀ c ∈ aas (some o),c < m):aat π o = o:=by
 cases o with
 | row k rows=>
  simp only [aat]
  congr 1
  conv=>rhs;rw [← List.map_id rows]
  refine List.map_congr_left fun r hr=>?_
  refine aj2 hπ r fun e he=>h e ?_
  simp only [aas,List.mem_flatMap];exact ⟨r,hr,he⟩
 | map ks vs bs cl=>
  simp only [aat]
  rw [aj2 hπ ks (fun e he=>h e (by simp [aas,he])),aj2 hπ vs (fun e he=>h e (by simp [aas,he]))]
 | siter s p=>rfl
theorem aux {f:Nat → Nat}:∀ {l S:List Nat},l.Nodup → (∀ c ∈ l,c ∈ S ∨ f c = 0) → (l.map f).sum ≤ (S.map f).sum
 | [],S,_,_=>by simp
 | c :: l,S,hn,h=>by
  rw [List.nodup_cons] at hn
  rcases h c (by simp) with hc|hc
  ·rw [ak5 hc]
   have:=aux (f:=f) (l:=l) (S:=S.erase c) hn.2 (fun d hd=>by
    rcases h d (by simp [hd]) with h1|h1
    ·exact .inl ((List.mem_erase_of_ne (fun e=>hn.1 (by rw [← e];exact hd))).2 h1)
    ·exact .inr h1)
   simp only [List.map_cons,List.sum_cons];omega
  ·have:=aux (f:=f) (l:=l) (S:=S) hn.2 (fun d hd=>h d (by simp [hd]))
   simp only [List.map_cons,List.sum_cons,hc];omega
theorem avi (H:aa4):∀ m,m ≤ H.length → ((H.take m).flatMap aas).length = ((List.range m).map fun c=>(aas (aa2 H c)).length).sum
 | 0,_=>rfl
 | m + 1,h=>by
  have ih:=avi H m (by omega)
  rw [List.range_succ,List.map_append,List.sum_append,← ih,List.take_add_one,List.flatMap_append,List.length_append]
  congr 1
  rw [List.getElem?_eq_getElem (by omega)]
  simp [aa2,List.getElem?_eq_getElem (show m < H.length by omega)]
theorem ald {m:Nat} {π:Nat → Option Nat} (hπ:∀ c,c < m → π c = some c):∀ F:Frm,(∀ c ∈ aab (F.map (·.2)),c < m) → auo π F = F
 | [],_=>rfl
 | (s,v) :: F,h=>by
  simp only [List.map_cons,aab,List.mem_append] at h
  have:=aj2 hπ [v] (by simp only [aab,List.append_nil];exact fun c hc=>h c (.inl hc))
  simp only [List.map_cons,List.map_nil,List.cons.injEq,and_true] at this
  rw [bb6,this,ald hπ F (fun c hc=>h c (.inr hc))]
theorem TSt.low {m:Nat} (h:TSt H m a b q ids w fo fr):∀ c,c < m → ∀ d ∈ aas (aa2 H c),d ∈ Tbl.blocks a b q ids fo.length:=by
 intro c hc d hd
 rcases h.lowf c hc with h1|h1
 ·exact h.tbl.closed c h1 d hd
 ·rw [h1] at hd;simp at hd
theorem TSt.head {m:Nat} {keep:List Nat} {F:Frm} {xb:AObj} (h:TSt H m a b q ids w fo fr) (hx:aa2 H m = some xb) (hxf:aas (some xb) = []) (hxo:FlatO (some xb)) (hn:fo.length ≤ 1000)
 (hF:∀ c ∈ aab ((aba keep F).map (·.2)),c < m + 1) (hFl:(aab ((aba keep F).map (·.2))).length ≤ 20) (hFm:m ∈ aab ((aba keep F).map (·.2))) (hFa:a ∈ aab ((aba keep F).map (·.2))) (hFq:q ∈ aab ((aba keep F).map (·.2))) (hFlow:∀ c ∈ aab ((aba keep F).map (·.2)),c = m ∨ c ∈ Tbl.blocks a b q ids fo.length ∨ aas (aa2 H c) = []) :
 ∃ H1,gcD m keep F H = some (aba keep F,H1) ∧ TSt H1 m a b q ids w fo fr ∧ aa2 H1 m = some xb ∧ H1.length = m + 1 ∧ ∀ c o,c < m → aa2 H c = some o → FlatO (some o) → aa2 H1 c = some o:=by
 have hml:=aac hx
 obtain ⟨R,π,H1,g1,g2,g3⟩:=ax8 (m:=m) (keep:=keep) (F:=F) (H:=H) (by omega) (m :: (aab ((aba keep F).map (·.2)) ++ Tbl.blocks a b q ids fo.length)) (fun c hc=>by simp [hc]) (fun c hc d hd=>by have:=h.low c hc d hd;simp [this]) (by
  intro c hc d hd
  simp only [List.mem_cons,List.mem_append] at hc
  have hbl:c ∈ Tbl.blocks a b q ids fo.length → d ∈ m :: (aab ((aba keep F).map (·.2)) ++ Tbl.blocks a b q ids fo.length):=fun hc=>by have:=h.tbl.closed c hc d hd;simp [this]
  rcases hc with rfl|hc|hc
  ·rw [hx,hxf] at hd;simp at hd
  ·rcases hFlow c hc with rfl|hc|hc
   ·rw [hx,hxf] at hd;simp at hd
   ·exact hbl hc
   ·rw [hc] at hd;simp at hd
  ·exact hbl hc) (by
  have hc1:=h.tbl.cost
  have hc0:=avi H m (by omega)
  have hc3:=aux (f:=fun c=>(aas (aa2 H c)).length) (l:=List.range m) (S:=Tbl.blocks a b q ids fo.length) List.nodup_range (fun c hc=>(h.lowf c (by simpa using hc)).imp id (fun e=>by rw [e];rfl))
  have hc2:∀ l:List Nat,(∀ c ∈ l,c = m ∨ c ∈ Tbl.blocks a b q ids fo.length ∨ aas (aa2 H c) = []) → (l.map fun c=>(aas (aa2 H c)).length).sum ≤ l.length * 1001:=by
   intro l
   induction l with
   | nil=>intro _;simp
   | cons c l ih=>
    intro hl
    have h1:=ih (fun c hc=>hl c (by simp [hc]))
    have h2:(aas (aa2 H c)).length ≤ 1001:=by
     rcases hl c (by simp) with rfl|hc|hc
     ·rw [hx,hxf];simp
     ·have:=ak5 (f:=fun c=>(aas (aa2 H c)).length) hc
      omega
     ·rw [hc];simp
    simp only [List.map_cons,List.sum_cons,List.length_cons];omega
  have hc4:=hc2 _ hFlow
  simp only [List.map_cons,List.sum_cons,List.map_append,List.sum_append,hx,hxf,List.length_nil]
  omega)
 have hRm:R m:=g2.refs m hFm
 obtain ⟨c,hc⟩:=g2.here m hRm
 have hcx:aa2 H1 c = some xb:=by rw [g2.heap m c hc,hx];exact hxo π
 have hlen1:H1.length ≤ m + 1:=by
  refine g2.len [m] fun d hd hmd=>?_
  have:=g2.least (fun d=>d ≤ m) (fun d hd=>by have:=hF d hd;omega) (fun c hc d hd=>by have:=h.bnd d (h.low c hc d hd);omega) (fun c hc d hd=>by
   rcases Nat.lt_or_eq_of_le hc with hlt|rfl
   ·have:=h.bnd d (h.low c hlt d hd);omega
   ·rw [hx,hxf] at hd;simp at hd) d hd
  simp;omega
 have hcm:c = m:=by
  have h1:=aac hcx
  by_cases h2:c < m
  ·have:=g2.inj _ _ _ hc (g2.low c h2);omega
  ·omega
 subst hcm
 have hπ:∀ d,d < c + 1 → π d = some d:=fun d hd=>by
  by_cases h2:d < c
  ·exact g2.low d h2
  ·have:d = c:=by omega
   rw [this];exact hc
 have hRl:∀ d,d ∈ Tbl.blocks a b q ids fo.length → π d = some d:=fun d hd=>g2.low d (h.bnd d hd)
 refine ⟨H1,?_,⟨?_,?_,h.bnd⟩,hcx,?_,?_⟩
 ·rw [g1,ald hπ _ hF]
 ·exact h.tbl.stay g2.mv (g2.refs a hFa) (g2.refs q hFq) hRl
 ·intro d hd
  rcases h.lowf d hd with h1|h1
  ·exact .inl h1
  ·refine .inr ?_
   rw [g2.heap d d (g2.low d hd)]
   cases ho:aa2 H d with
   | none=>rfl
   | some o=>
    rw [ho] at h1
    rw [Option.map_some,aj1 g2.low o (fun e he=>by rw [h1] at he;simp at he)]
    exact h1
 ·have:=aac hcx;omega
 ·intro d o hd ho hfo
  rw [g2.heap d d (g2.low d hd),ho];exact hfo π
end
theorem aik (a b:List AV):aab (a ++ b) = aab a ++ aab b:=by
 induction a with
 | nil=>rfl
 | cons v a ih=>simp only [List.cons_append,aab,ih,List.append_assoc]
theorem bdp {E:Env} {d:Bool} {call:CallF} {g:FuncId} {args:List AV} {H:aa4} {m a b q:Nat} {ids:Nat → Nat} {w:Nat} {fo fo':List (List (BitVec 64))} {fr:Int} (hx:E.ext g = false) (hf:(E.fn g).isSome = true)
 (h:TSt H m a b q ids w fo fr) (hm:m ≤ H.length) (hn:fo.length ≤ 1000) (ha:aab args = []) (hl:fo'.length = fo.length)
 (hrun:∀ (H0:aa4) (a' b' q':Nat) (ids':Nat → Nat),Tbl H0 a' b' q' ids' w fo fr → (∀ c,c < H0.length → c ∈ Tbl.blocks a' b' q' ids' fo.length) → ∃ H1,call g (args ++ [.ptr a' 0 0,.ptr q' 0 0]) H0 = some (.tuple [],H1) ∧ H1.length = H0.length ∧ Tbl H1 a' b' q' ids' w fo' fr) :
 ∃ H' σ,aaa E d call (.func (.func g) [] [.ptr a 0 0,.ptr q 0 0]) args H = some (.tuple [],H',σ) ∧ TSt H' m a b q ids w fo' fr ∧ H'.length = H.length ∧ ∀ c,c ∉ Tbl.blocks a b q ids fo.length → aa2 H' c = aa2 H c:=by
 have hrf:aab ([] ++ args ++ [AV.ptr a 0 0,.ptr q 0 0]) = [a,q]:=by rw [List.nil_append,aik,ha];rfl
 have hb1:∀ c ∈ [a,q],c ∈ Tbl.blocks a b q ids fo.length:=by
  intro c hc;simp only [List.mem_cons,List.not_mem_nil,or_false] at hc
  rcases hc with rfl|rfl
  ·exact Tbl.mem_blocks.2 (.inl rfl)
  ·exact Tbl.mem_blocks.2 (.inr (.inr (.inl rfl)))
 have hcost:=h.tbl.cost
 obtain ⟨σ,hr,hlt,hgo⟩:=ajx (call g) ([] ++ args ++ [AV.ptr a 0 0,.ptr q 0 0]) H (Tbl.blocks a b q ids fo.length) (by rw [hrf];exact hb1) h.tbl.closed (fun c hc=>by have:=h.bnd c hc;omega) (by rw [hrf];simp only [List.length_cons,List.length_nil];omega)
 rw [hrf] at hr
 have hsub:∀ c ∈ σ,c ∈ Tbl.blocks a b q ids fo.length:=hr.least (·∈ Tbl.blocks a b q ids fo.length) hb1 (fun c hc d hd=>h.tbl.closed c hc d hd)
 have hmv:=ars hr
 obtain ⟨a',b',q',ids',e1,e2,e3,e4,ht⟩:=h.tbl.mv hmv (hr.start a (by simp)) (hr.start q (by simp))
 have hslen:(abz H σ (af4 σ)).length = σ.length:=by simp [abz]
 have hall:∀ c,c < (abz H σ (af4 σ)).length → c ∈ Tbl.blocks a' b' q' ids' fo.length:=by
  intro j hj
  rw [hslen] at hj
  obtain ⟨c,hc⟩:∃ c,σ[j]? = some c:=⟨_,List.getElem?_eq_getElem hj⟩
  have hpi:af4 σ c = some j:=act hr.nodup hc
  have hcb:=hsub c (List.mem_of_getElem? hc)
  rw [Tbl.mem_blocks] at hcb ⊢
  rcases hcb with rfl|rfl|rfl|⟨i,hi,rfl⟩
  ·rw [hpi] at e1;cases e1;exact .inl rfl
  ·rw [hpi] at e2;cases e2;exact .inr (.inl rfl)
  ·rw [hpi] at e3;cases e3;exact .inr (.inr (.inl rfl))
  ·have:=e4 i hi;rw [hpi] at this;cases this;exact .inr (.inr (.inr ⟨i,hi,rfl⟩))
 obtain ⟨H1,hc1,hl1,ht1⟩:=hrun _ a' b' q' ids' ht hall
 have hra:([] ++ args ++ [AV.ptr a 0 0,.ptr q 0 0]).map (ren (af4 σ)) = args ++ [.ptr a' 0 0,.ptr q' 0 0]:=by
  rw [List.nil_append,List.map_append,ae7 _ ha]
  simp only [List.map_cons,List.map_nil,ren,e1,e3]
 have hgo:=hgo (.tuple []) H1 (by rw [hra];exact hc1)
 have hd:(H1.drop σ.length) = []:=List.drop_eq_nil_of_le (by rw [hl1,hslen];omega)
 rw [hd,List.map_nil,List.append_nil] at hgo
 have hbk:=avg (H:=H) (H1:=H1) hr.nodup hlt (fun j=>j < σ.length) (fun j hj=>hj) (by
  intro j hj c hc
  have hjb:=hall j (by rw [hslen];exact hj)
  rw [← hl] at hjb
  have hcb:=ht1.closed j hjb c hc
  have:c < H1.length:=by
   rw [Tbl.mem_blocks] at hcb
   rcases hcb with rfl|rfl|rfl|⟨i,hi,rfl⟩
   ·exact aac ht1.out
   ·exact aac ht1.top
   ·exact aac ht1.frm
   ·obtain ⟨f,hf⟩:∃ f,fo'[i]? = some f:=⟨_,List.getElem?_eq_getElem hi⟩
    exact aac (ht1.sub i f hf).1
  rw [hl1,hslen] at this;exact this)
 have hal:a' < σ.length:=(List.getElem?_eq_some_iff.1 (abg e1)).1
 have hql:q' < σ.length:=(List.getElem?_eq_some_iff.1 (abg e3)).1
 obtain ⟨a2,b2,q2,ids2,f1,f2,f3,f4,ht2⟩:=ht1.mv hbk hal hql
 rw [afh e1] at f1
 rw [afh e2] at f2
 rw [afh e3] at f3
 cases f1;cases f2;cases f3
 have ht3:Tbl (aax σ H.length H1 0 H) a b q ids w fo' fr:=ht2.congr fun j hj=>by
  have h4:=f4 j hj
  rw [afh (e4 j (by rw [← hl];exact hj))] at h4
  exact (Option.some.inj h4).symm
 have hout:∀ c,c ∉ Tbl.blocks a b q ids fo.length → aa2 (aax σ H.length H1 0 H) c = aa2 H c:=fun c hc=>av8 (fun hcs=>hc (hsub c hcs))
 have hpl:(aax σ H.length H1 0 H).length = H.length:=ahq 0 H
 refine ⟨_,σ,af6 hx hf rfl (by simpa [ren,ard] using hgo) hpl,⟨ht3,?_,by rw [hl];exact h.bnd⟩,hpl,hout⟩
 intro c hc
 rw [hl]
 rcases h.lowf c hc with h1|h1
 ·exact .inl h1
 ·by_cases hcb:c ∈ Tbl.blocks a b q ids fo.length
  ·exact .inl hcb
  ·rw [hout c hcb];exact .inr h1
end Go.Ax
/- AxLow: a loop's head over blocks that all stood before the call and refer to nothing. -/
namespace Go.Ax
theorem bgt {H H1:aa4} (hl:H1.length = H.length) (h:∀ b,b < H.length → aa2 H1 b = aa2 H b):H1 = H:=by
 apply List.ext_getElem hl
 intro b h1 h2
 have:=h b h2
 unfold aa2 at this
 rw [List.getElem?_eq_getElem h1,List.getElem?_eq_getElem h2] at this
 exact this
theorem bq7 {keep:List Nat} {F F':Frm} {H:aa4} (hk:aba keep F = F') (hF:∀ b ∈ aab (F'.map (·.2)),b < H.length) (hn:(aab (F'.map (·.2))).length < 1000) (hH:∀ b,aas (aa2 H b) = []):gcD H.length keep F H = some (F',H):=by
 subst hk
 have hsum:((List.range H.length).map fun b=>(aas (aa2 H b)).length).sum = 0:=by
  have:((List.range H.length).map fun b=>(aas (aa2 H b)).length) = List.replicate H.length 0:=by
   rw [← List.length_range (n:=H.length),← List.map_const',List.length_range]
   exact List.map_congr_left fun b _=>by rw [hH];rfl
  rw [this];simp
 have hfl:(H.take H.length).flatMap aas = []:=by
  rw [List.take_length,List.flatMap_eq_nil_iff]
  intro o ho
  obtain ⟨b,hb⟩:=List.mem_iff_getElem?.1 ho
  have:=hH b
  unfold aa2 at this
  rw [hb] at this
  exact this
 obtain ⟨R,π,H1,h1,hg,hl⟩:=ax8 (m:=H.length) (keep:=keep) (F:=F) (H:=H) (Nat.le_refl _) (List.range H.length) (fun b hb=>List.mem_range.2 (hF b hb)) (fun b _ c hc=>by rw [hH] at hc;simp at hc) (fun b _ c hc=>by rw [hH] at hc;simp at hc) (by rw [hsum,hfl];simp only [List.length_nil];omega)
 have hlen:H1.length = H.length:=by
  have:=hg.len [] (fun b hR hb=>by
   have:=hg.least (fun b=>b < H.length) hF (fun b _ c hc=>by rw [hH] at hc;simp at hc) (fun b _ c hc=>by rw [hH] at hc;simp at hc) b hR
   omega)
  simp only [List.length_nil,Nat.add_zero] at this
  omega
 rw [h1,ald hg.low _ hF]
 have:H1 = H:=bgt hlen fun b hb=>by
  rw [hg.heap b b (hg.low b hb)]
  cases ho:aa2 H b with
  | none=>rfl
  | some o=>
   have h2:=hH b
   rw [ho] at h2
   simp only [Option.map_some]
   rw [aj1 hg.low o (fun c hc=>by rw [h2] at hc;simp at hc)]
 rw [this]
end Go.Ax
/- AxMelt: calls over flat arguments that return a pointer to a block of their own. -/
namespace Go.Ax
theorem azu {E:Env} {call:CallF} {g:FuncId} {fs cs ar args:List AV} {H:aa4} {k:Nat} {rows:List (List AV)} (hx:E.ext g = false) (hf:(E.fn g).isSome = true) (he:fs ++ ar ++ cs = args) (hargs:aab args = []) (hr:call g args [] = some (.ptr 0 0 0,[some (.row k rows)])) (hfl:FlatR rows) :
 aaa E false call (.func (.func g) fs cs) ar H = some (.ptr H.length 0 0,H ++ [some (.row k rows)],[]):=by
 have hc:=acd (call g) args H (σ:=[]) (by rw [hargs];rfl) rfl rfl (args':=args) (ae7 _ hargs) (H0:=[]) rfl hr
 have hp:∀ (s:Nat) (H:aa4),aax [] H.length [some (AObj.row k rows)] s H = H:=by
  intro s H
  have:∀ (n s:Nat) (H:aa4),aax [] n [some (AObj.row k rows)] s H = H:=by
   intro n s H
   induction H generalizing s with
   | nil=>rfl
   | cons x H ih=>simp [aax,ih]
  exact this _ _ _
 rw [hp] at hc
 have h1:=fun π=>aae π hfl
 have hb:ren (abt [] H.length) (.ptr 0 0 0) = .ptr H.length 0 0:=rfl
 rw [hb] at hc
 simp only [List.length_nil,List.drop_zero,List.map_cons,List.map_nil,Option.map_some,aat,h1] at hc
 exact akx hx hf he hc
@[go_sem] theorem bm9 {v:AV} {H:aa4}:aby true 0 v H = boa 0 v H:=by rfl
theorem azd {m:Nat} (hm:(m = 0) = False) {v:AV} {H:aa4}:aby true m v H = some (v,H):=by
 cases m with
 | zero=>simp at hm
 | succ n=>rfl
attribute [go_sem] azd
@[go_sem] theorem bru {m b i o:Nat} {H:aa4}:boa m (.ptr b i o) H = bif decide (m ≤ b) then aan (ak7 (aa2 H b)) fun kr=>aan (avr m (ajg (adn (aa2 H) b) m 12) kr.2) fun rows'=>some (.ptr m i o,(H.take m).map (Option.map (aat (ab9 m))) ++ [some (.row kr.1 rows')]) else none:=by
 have e:Nat.ble m b = decide (m ≤ b):=by rw [Bool.eq_iff_iff,Nat.ble_eq,decide_eq_true_eq]
 simp only [boa,e]
 cases decide (m ≤ b) with
 | false=>rfl
 | true=>
  simp only [cond_true]
  cases h:aa2 H b with
  | none=>rfl
  | some ob=>cases ob with
   | row k rows=>simp only [ak7,aan];cases avr m (ajg (adn (aa2 H) b) m 12) rows<;>rfl
   | map=>rfl
   | siter=>rfl
@[go_sem] theorem bs6 {m:Nat} {d:AV → Option AV}:avr m d [] = some []:=by rfl
@[go_sem] theorem bq9 {m:Nat} {d:AV → Option AV} {r:List AV} {rs:List (List AV)}:avr m d (r :: rs) = aan (agi m true d r) fun r'=>aan (avr m d rs) fun rs'=>some (r' :: rs'):=by
 simp only [avr]
 cases agi m true d r with
 | none=>rfl
 | some r'=>cases avr m d rs<;>rfl
@[go_sem] theorem bnq {h:FHeap} {b x:Nat}:adn h b x = bif decide (x = b) then none else h x:=by
 unfold adn
 by_cases hx:x = b
 ·subst hx;rw [show Nat.beq x x = true from Nat.beq_refl x,decide_eq_true rfl]
 ·rw [decide_eq_false hx]
  cases hq:Nat.beq x b with
  | false=>rfl
  | true=>exact absurd (Nat.eq_of_beq_eq_true hq) hx
theorem aq7 {n:Nat} {H1:aa4}:∀ (R:aa4) (s:Nat),2 ≤ s → aax [0,1] n H1 s R = R
 | [],s,_=>by simp [aax]
 | o :: R,s,hs=>by
  have e:([0,1]:List Nat).idxOf? s = none:=by
   rw [List.idxOf?_eq_none_iff];simp;omega
  simp only [aax,e,aq7 R (s + 1) (by omega)]
theorem axv {E:Env} {draw:Bool} {call:CallF} {g:FuncId} {fs cs ar args:List AV} {X Y:AObj} {R:aa4} {v:AV} (hx:E.ext g = false) (hf:(E.fn g).isSome = true) (he:fs ++ ar ++ cs = args) (hargs:aab args = [0]) (hX:aas (some X) = [1]) (hY:aas (some Y) = [])
 (ha:args.map (ren (af4 [0,1])) = args) (hX1:aat (af4 [0,1]) X = X) (hX2:∀ n,aat (abt [0,1] n) X = X) (hYf:FlatO (some Y)) (hr:call g args [some X,some Y] = some (v,[some X,some Y])) (hv:refs v = []) :
 aaa E draw call (.func (.func g) fs cs) ar (some X :: some Y :: R) = some (v,some X :: some Y :: R,[0,1]):=by
 have hY1:∀ π,aat π Y = Y:=fun π=>by have:=hYf π;simpa using this
 have hc:=acd (call g) args (some X :: some Y :: R) (σ:=[0,1]) (by rw [hargs];simp +decide only [go_sem,hX,hY]) rfl (by simp) ha (H0:=[some X,some Y]) (by simp [abz,aa2,hX1,hY1]) hr
 have hp:aax [0,1] (some X :: some Y :: R).length [some X,some Y] 0 (some X :: some Y :: R) = some X :: some Y :: R:=by
  simp only [at4,aq7 R 2 (by omega)]
  simp +decide [awn,aa2,hX2,hY1,List.idxOf?_cons]
 rw [hp,abc _ v hv] at hc
 simp only [List.length_cons,List.length_nil,List.drop_succ_cons,List.drop_zero,List.map_nil,List.append_nil] at hc
 exact af6 hx hf he hc rfl
end Go.Ax
/- AxLog: the look at a drawn region's log, the order first. -/
namespace Go.Ax
def ahw (all:List Oper) (j:Nat) (y:LogE):Nat → List LogE → Bool
 | _,[]=>true
 | 0,_ :: _=>false
 | i + 1,x :: rest=>(aea all i j || !(x.clash y)) && ahw all j y i rest
def akg (all:List Oper):Nat → List LogE → Bool
 | _,[]=>true
 | 0,_ :: _=>false
 | j + 1,y :: rest=>ahw all j y j rest && akg all j rest
theorem aqb (all:List Oper) (j:Nat) (y:LogE):∀ (i:Nat) (l:List LogE),ahw all j y i l = logOk.logRow all j y i l
 | _,[]=>by unfold ahw logOk.logRow;rfl
 | 0,_ :: _=>by unfold ahw logOk.logRow;rfl
 | i + 1,x :: rest=>by unfold ahw logOk.logRow;rw [aqb all j y i rest,Bool.or_comm]
theorem atd (all:List Oper):∀ (i:Nat) (l:List LogE),akg all i l = logOk all i l
 | _,[]=>by unfold akg logOk;rfl
 | 0,_ :: _=>by unfold akg logOk;rfl
 | j + 1,y :: rest=>by unfold akg logOk;rw [atd all j rest,aqb]
theorem xs2 {F F1:Frm} {H H1:aa4} {Q:apo} {E:Env} {M:List Fact} {m N:Nat} {g:FuncId} {cur:Nat} {id ops draw} {log:List LogE} (h:ak0 E draw N (sem E M) ops.toList ops.toList [] F H = some (F1,H1,log)) (hl:(!draw || akg ops.toList log.length log) = true) (hq:Q .normal F1 H1):Wp (cx E M m N g cur) (.region id ops draw) F H Q:=
 xs h (by rw [← atd];exact hl) hq
def baa (all:List Oper) (j:Nat) (y:LogE):List LogE → Prop
 | []=>True
 | x :: rest=>(aea all rest.length j = true ∨ x.clash y = false) ∧ baa all j y rest
def bjk (all:List Oper):List LogE → Prop
 | []=>True
 | y :: rest=>baa all rest.length y rest ∧ bjk all rest
theorem amx {all:List Oper}:bjk all []:=by unfold bjk;trivial
theorem akf {all:List Oper} {y:LogE} {rest:List LogE} (h1:baa all rest.length y rest) (h2:bjk all rest):bjk all (y :: rest):=by unfold bjk;exact ⟨h1,h2⟩
theorem amo {all:List Oper} {j:Nat} {y:LogE}:baa all j y []:=by unfold baa;trivial
theorem amn {all:List Oper} {j:Nat} {y x:LogE} {rest:List LogE} (h1:aea all rest.length j = true) (h2:baa all j y rest):baa all j y (x :: rest):=by unfold baa;exact ⟨.inl h1,h2⟩
theorem amp {all:List Oper} {j:Nat} {y x:LogE} {rest:List LogE} (h1:x.clash y = false) (h2:baa all j y rest):baa all j y (x :: rest):=by unfold baa;exact ⟨.inr h1,h2⟩
theorem bb1 {all:List Oper} {j:Nat} {y:LogE}:∀ {l:List LogE},baa all j y l → ahw all j y l.length l = true
 | [],_=>by unfold ahw;rfl
 | x :: rest,h=>by
  rw [List.length_cons]
  unfold ahw
  rw [bb1 h.2,Bool.and_true]
  rcases h.1 with h1|h1
  ·rw [h1,Bool.true_or]
  ·rw [h1];simp
theorem bbx {all:List Oper}:∀ {l:List LogE},bjk all l → akg all l.length l = true
 | [],_=>by unfold akg;rfl
 | y :: rest,h=>by
  rw [List.length_cons]
  unfold akg
  rw [bbx h.2,Bool.and_true]
  exact bb1 h.1
theorem xs3 {F F1:Frm} {H H1:aa4} {Q:apo} {E:Env} {M:List Fact} {m N:Nat} {g:FuncId} {cur:Nat} {id ops draw} {log:List LogE} (h:ak0 E draw N (sem E M) ops.toList ops.toList [] F H = some (F1,H1,log)) (hl:bjk ops.toList log) (hq:Q .normal F1 H1):Wp (cx E M m N g cur) (.region id ops draw) F H Q:=
 xs2 h (by rw [bbx hl];simp) hq
theorem akw {x y:LogE} (h1:∀ a ∈ x.keys,a ∉ y.needs) (h2:∀ a ∈ x.keys,a ∉ y.keys) (h3:∀ a ∈ x.needs,a ∉ y.keys):x.clash y = false:=by
 have hm:∀ l k:List Nat,(∀ a ∈ l,a ∉ k) → ans l k = false:=by
  intro l k h
  unfold ans
  rw [List.any_eq_false]
  intro a ha
  have:=h a ha
  rw [Bool.not_eq_true]
  cases hc:abh k a with
  | false=>rfl
  | true=>exact absurd (acw.1 hc) this
 unfold LogE.clash
 rw [hm _ _ h1,hm _ _ h2,hm _ _ h3];rfl
end Go.Ax
namespace Go.Ax
end Go.Ax
/- AxTab3: calls that are given a table (and a list in a block). -/
namespace Go.Ax
theorem Tbl.lt {H:aa4} {a b q:Nat} {ids:Nat → Nat} {w:Nat} {fo:List (List (BitVec 64))} {fr:Int} (h:Tbl H a b q ids w fo fr):∀ c ∈ Tbl.blocks a b q ids fo.length,c < H.length:=by
 intro c hc
 rw [Tbl.mem_blocks] at hc
 rcases hc with rfl|rfl|rfl|⟨i,hi,rfl⟩
 ·exact aac h.out
 ·exact aac h.top
 ·exact aac h.frm
 ·obtain ⟨f,hf⟩:∃ f,fo[i]? = some f:=⟨_,List.getElem?_eq_getElem hi⟩
  exact aac (h.sub i f hf).1
theorem bdr {E:Env} {d:Bool} {call:CallF} {g:FuncId} {H:aa4} {a b q:Nat} {ids:Nat → Nat} {w:Nat} {fo fo':List (List (BitVec 64))} {fr:Int} (hx:E.ext g = false) (hf:(E.fn g).isSome = true)
 (mk:Nat → Nat → List AV) (hmk:∀ y z,aab (mk y z) = [y,z]) (hren:∀ (π:Nat → Option Nat) (y z y' z':Nat),π y = some y' → π z = some z' → (mk y z).map (ren π) = mk y' z')
 (ht:Tbl H a b q ids w fo fr) (hn:fo.length ≤ 1000) (hl:fo'.length = fo.length)
 (hrun:∀ (H0:aa4) (a' b' q':Nat) (ids':Nat → Nat),TSt H0 H0.length a' b' q' ids' w fo fr → ∃ H1,call g (mk a' q') H0 = some (.tuple [],H1) ∧ H1.length = H0.length ∧ Tbl H1 a' b' q' ids' w fo' fr) :
 ∃ H' σ,aaa E d call (.func (.func g) [] []) (mk a q) H = some (.tuple [],H',σ) ∧ Tbl H' a b q ids w fo' fr ∧ H'.length = H.length ∧ ∀ c,c ∉ Tbl.blocks a b q ids fo.length → aa2 H' c = aa2 H c:=by
 have hrf:aab ([] ++ mk a q ++ []) = [a,q]:=by rw [List.nil_append,List.append_nil,hmk]
 have hblt:=ht.lt
 have hb1:∀ c ∈ [a,q],c ∈ Tbl.blocks a b q ids fo.length:=by
  intro c hc;simp only [List.mem_cons,List.not_mem_nil,or_false] at hc 
  rcases hc with rfl|rfl
  ·exact Tbl.mem_blocks.2 (.inl rfl)
  ·exact Tbl.mem_blocks.2 (.inr (.inr (.inl rfl)))
 have hSc:∀ c ∈ Tbl.blocks a b q ids fo.length,∀ d ∈ aas (aa2 H c),d ∈ Tbl.blocks a b q ids fo.length:=by
  intro c hc d hd
  exact ht.closed c hc d hd
 have hcost:=ht.cost
 obtain ⟨σ,hr,hlt,hgo⟩:=ajx (call g) ([] ++ mk a q ++ []) H (Tbl.blocks a b q ids fo.length) (by rw [hrf];exact hb1) hSc (by
  intro c hc
  exact hblt c hc) (by rw [hrf];simp only [List.length_cons,List.length_nil];omega)
 rw [hrf] at hr
 have hsub:∀ c ∈ σ,c ∈ Tbl.blocks a b q ids fo.length:=hr.least (·∈ Tbl.blocks a b q ids fo.length) hb1 (fun c hc d hd=>hSc c hc d hd)
 have hmv:=ars hr
 obtain ⟨a',b',q',ids',e1,e2,e3,e4,ht'⟩:=ht.mv hmv (hr.start a (by simp)) (hr.start q (by simp))
 have hslen:(abz H σ (af4 σ)).length = σ.length:=by simp [abz]
 have hall:∀ c,c < (abz H σ (af4 σ)).length → c ∈ Tbl.blocks a' b' q' ids' fo.length:=by
  intro j hj
  rw [hslen] at hj
  obtain ⟨c,hc⟩:∃ c,σ[j]? = some c:=⟨_,List.getElem?_eq_getElem hj⟩
  have hpi:af4 σ c = some j:=act hr.nodup hc
  have hcb:=hsub c (List.mem_of_getElem? hc)
  rw [Tbl.mem_blocks] at hcb ⊢
  rcases hcb with rfl|rfl|rfl|⟨i,hi,rfl⟩
  ·rw [hpi] at e1;cases e1;exact .inl rfl
  ·rw [hpi] at e2;cases e2;exact .inr (.inl rfl)
  ·rw [hpi] at e3;cases e3;exact .inr (.inr (.inl rfl))
  ·have:=e4 i hi;rw [hpi] at this;cases this;exact .inr (.inr (.inr ⟨i,hi,rfl⟩))
 have hTS:TSt (abz H σ (af4 σ)) (abz H σ (af4 σ)).length a' b' q' ids' w fo fr:=⟨ht',fun c hc=>.inl (hall c hc),fun c hc=>ht'.lt c hc⟩
 obtain ⟨H1,hc1,hl1,ht1⟩:=hrun _ a' b' q' ids' hTS
 have hra:([] ++ mk a q ++ []).map (ren (af4 σ)) = mk a' q':=by
  rw [List.nil_append,List.append_nil]
  exact hren _ _ _ _ _ e1 e3
 have hgo:=hgo (.tuple []) H1 (by rw [hra];exact hc1)
 have hd:(H1.drop σ.length) = []:=List.drop_eq_nil_of_le (by rw [hl1,hslen];omega)
 rw [hd,List.map_nil,List.append_nil] at hgo
 have hbk:=avg (H:=H) (H1:=H1) hr.nodup hlt (fun j=>j < σ.length) (fun j hj=>hj) (by
  intro j hj c hc
  have hjb:=hall j (by rw [hslen];exact hj)
  rw [← hl] at hjb
  have:=ht1.lt c (ht1.closed j hjb c hc)
  rw [hl1,hslen] at this;exact this)
 have hal:a' < σ.length:=(List.getElem?_eq_some_iff.1 (abg e1)).1
 have hql:q' < σ.length:=(List.getElem?_eq_some_iff.1 (abg e3)).1
 obtain ⟨a2,b2,q2,ids2,f1,f2,f3,f4,ht2⟩:=ht1.mv hbk hal hql
 rw [afh e1] at f1
 rw [afh e2] at f2
 rw [afh e3] at f3
 cases f1;cases f2;cases f3
 have ht3:Tbl (aax σ H.length H1 0 H) a b q ids w fo' fr:=ht2.congr fun j hj=>by
  have h4:=f4 j hj
  rw [afh (e4 j (by rw [← hl];exact hj))] at h4
  exact (Option.some.inj h4).symm
 have hpl:(aax σ H.length H1 0 H).length = H.length:=ahq 0 H
 refine ⟨_,σ,af6 hx hf rfl (by simpa [ren,ard] using hgo) hpl,ht3,hpl,fun c hc=>av8 (fun hcs=>hc (hsub c hcs))⟩
theorem bdq {E:Env} {d:Bool} {call:CallF} {g:FuncId} {H:aa4} {lb a b q:Nat} {ids:Nat → Nat} {w:Nat} {fo fo':List (List (BitVec 64))} {fr:Int} {lo:AObj} (hx:E.ext g = false) (hf:(E.fn g).isSome = true)
 (mk:Nat → Nat → Nat → List AV) (hmk:∀ x y z,aab (mk x y z) = [x,y,z]) (hren:∀ (π:Nat → Option Nat) (x y z x' y' z':Nat),π x = some x' → π y = some y' → π z = some z' → (mk x y z).map (ren π) = mk x' y' z')
 (ht:Tbl H a b q ids w fo fr) (hlb:aa2 H lb = some lo) (hlf:aas (some lo) = []) (hlo:FlatO (some lo)) (hlbn:lb ∉ Tbl.blocks a b q ids fo.length) (hn:fo.length ≤ 1000) (hl:fo'.length = fo.length)
 (hrun:∀ (H0:aa4) (l' a' b' q':Nat) (ids':Nat → Nat),TSt H0 H0.length a' b' q' ids' w fo fr → aa2 H0 l' = some lo → l' ∉ Tbl.blocks a' b' q' ids' fo.length → l' < H0.length → ∃ H1,call g (mk l' a' q') H0 = some (.tuple [],H1) ∧ H1.length = H0.length ∧ Tbl H1 a' b' q' ids' w fo' fr ∧ aa2 H1 l' = some lo) :
 ∃ H' σ,aaa E d call (.func (.func g) [] []) (mk lb a q) H = some (.tuple [],H',σ) ∧ Tbl H' a b q ids w fo' fr ∧ H'.length = H.length ∧ aa2 H' lb = some lo ∧ ∀ c,c ∉ Tbl.blocks a b q ids fo.length → c ≠ lb → aa2 H' c = aa2 H c:=by
 have hrf:aab ([] ++ mk lb a q ++ []) = [lb,a,q]:=by rw [List.nil_append,List.append_nil,hmk]
 have hblt:=ht.lt
 have hb1:∀ c ∈ [lb,a,q],c ∈ lb :: Tbl.blocks a b q ids fo.length:=by
  intro c hc;simp only [List.mem_cons,List.not_mem_nil,or_false] at hc ⊢
  rcases hc with rfl|rfl|rfl
  ·exact .inl rfl
  ·exact .inr (Tbl.mem_blocks.2 (.inl rfl))
  ·exact .inr (Tbl.mem_blocks.2 (.inr (.inr (.inl rfl))))
 have hSc:∀ c ∈ lb :: Tbl.blocks a b q ids fo.length,∀ d ∈ aas (aa2 H c),d ∈ lb :: Tbl.blocks a b q ids fo.length:=by
  intro c hc d hd
  simp only [List.mem_cons] at hc ⊢
  rcases hc with rfl|hc
  ·rw [hlb,hlf] at hd;simp at hd
  ·exact .inr (ht.closed c hc d hd)
 have hcost:=ht.cost
 obtain ⟨σ,hr,hlt,hgo⟩:=ajx (call g) ([] ++ mk lb a q ++ []) H (lb :: Tbl.blocks a b q ids fo.length) (by rw [hrf];exact hb1) hSc (by
  intro c hc
  simp only [List.mem_cons] at hc
  rcases hc with rfl|hc
  ·exact aac hlb
  ·exact hblt c hc) (by rw [hrf];simp only [List.length_cons,List.length_nil,List.map_cons,List.sum_cons,hlb,hlf];omega)
 rw [hrf] at hr
 have hsub:∀ c ∈ σ,c ∈ lb :: Tbl.blocks a b q ids fo.length:=hr.least (·∈ lb :: Tbl.blocks a b q ids fo.length) hb1 (fun c hc d hd=>hSc c hc d hd)
 have hmv:=ars hr
 obtain ⟨a',b',q',ids',e1,e2,e3,e4,ht'⟩:=ht.mv hmv (hr.start a (by simp)) (hr.start q (by simp))
 obtain ⟨l',e0,_,hl0⟩:=anb (H:=H) hr.nodup (hr.start lb (by simp))
 rw [hlb,hlo] at hl0
 have hslen:(abz H σ (af4 σ)).length = σ.length:=by simp [abz]
 have hall:∀ c,c < (abz H σ (af4 σ)).length → c = l' ∨ c ∈ Tbl.blocks a' b' q' ids' fo.length:=by
  intro j hj
  rw [hslen] at hj
  obtain ⟨c,hc⟩:∃ c,σ[j]? = some c:=⟨_,List.getElem?_eq_getElem hj⟩
  have hpi:af4 σ c = some j:=act hr.nodup hc
  have hcb:=hsub c (List.mem_of_getElem? hc)
  simp only [List.mem_cons] at hcb
  rw [Tbl.mem_blocks] at hcb ⊢
  rcases hcb with rfl|rfl|rfl|rfl|⟨i,hi,rfl⟩
  ·rw [hpi] at e0;cases e0;exact .inl rfl
  ·rw [hpi] at e1;cases e1;exact .inr (.inl rfl)
  ·rw [hpi] at e2;cases e2;exact .inr (.inr (.inl rfl))
  ·rw [hpi] at e3;cases e3;exact .inr (.inr (.inr (.inl rfl)))
  ·have:=e4 i hi;rw [hpi] at this;cases this;exact .inr (.inr (.inr (.inr ⟨i,hi,rfl⟩)))
 have hTS:TSt (abz H σ (af4 σ)) (abz H σ (af4 σ)).length a' b' q' ids' w fo fr:=⟨ht',fun c hc=>(hall c hc).elim (fun e=>.inr (by rw [e,hl0];exact hlf)) .inl,fun c hc=>ht'.lt c hc⟩
 obtain ⟨H1,hc1,hl1,ht1,hlb1⟩:=hrun _ l' a' b' q' ids' hTS hl0 (by
  rw [Tbl.mem_blocks]
  rintro (e|e|e|⟨i,hi,e⟩)
  ·rw [e] at e0;exact hlbn (Tbl.mem_blocks.2 (.inl (hmv.inj _ _ _ e0 e1)))
  ·rw [e] at e0;exact hlbn (Tbl.mem_blocks.2 (.inr (.inl (hmv.inj _ _ _ e0 e2))))
  ·rw [e] at e0;exact hlbn (Tbl.mem_blocks.2 (.inr (.inr (.inl (hmv.inj _ _ _ e0 e3)))))
  ·rw [e] at e0;exact hlbn (Tbl.mem_blocks.2 (.inr (.inr (.inr ⟨i,hi,hmv.inj _ _ _ e0 (e4 i hi)⟩))))) (aac hl0)
 have hra:([] ++ mk lb a q ++ []).map (ren (af4 σ)) = mk l' a' q':=by
  rw [List.nil_append,List.append_nil]
  exact hren _ _ _ _ _ _ _ e0 e1 e3
 have hgo:=hgo (.tuple []) H1 (by rw [hra];exact hc1)
 have hd:(H1.drop σ.length) = []:=List.drop_eq_nil_of_le (by rw [hl1,hslen];omega)
 rw [hd,List.map_nil,List.append_nil] at hgo
 have hbk:=avg (H:=H) (H1:=H1) hr.nodup hlt (fun j=>j < σ.length) (fun j hj=>hj) (by
  intro j hj c hc
  have hjb:=hall j (by rw [hslen];exact hj)
  rcases hjb with rfl|hjb
  ·rw [hlb1,hlf] at hc;simp at hc
  rw [← hl] at hjb
  have:=ht1.lt c (ht1.closed j hjb c hc)
  rw [hl1,hslen] at this;exact this)
 have hal:a' < σ.length:=(List.getElem?_eq_some_iff.1 (abg e1)).1
 have hql:q' < σ.length:=(List.getElem?_eq_some_iff.1 (abg e3)).1
 obtain ⟨a2,b2,q2,ids2,f1,f2,f3,f4,ht2⟩:=ht1.mv hbk hal hql
 rw [afh e1] at f1
 rw [afh e2] at f2
 rw [afh e3] at f3
 cases f1;cases f2;cases f3
 have ht3:Tbl (aax σ H.length H1 0 H) a b q ids w fo' fr:=ht2.congr fun j hj=>by
  have h4:=f4 j hj
  rw [afh (e4 j (by rw [← hl];exact hj))] at h4
  exact (Option.some.inj h4).symm
 have hpl:(aax σ H.length H1 0 H).length = H.length:=ahq 0 H
 refine ⟨_,σ,af6 hx hf rfl (by simpa [ren,ard] using hgo) hpl,ht3,hpl,?_,fun c hc hc2=>av8 (fun hcs=>by have:=hsub c hcs;simp only [List.mem_cons] at this;rcases this with h|h;exact hc2 h;exact hc h)⟩
 rw [biv hr.nodup (abg e0) (aac hlb),hlb1];exact hlo _
end Go.Ax
/- AxTab4: a table that is being aww; heads of the loops that make and fill it. -/
namespace Go.Ax
structure Tb0 (H:aa4) (a b:Nat) (ids:Nat → Nat) (w n i:Nat):Prop where
 out:aa2 H a = some (.row 1 [[.slice b 0 n (some n)]])
 top:aa2 H b = some (.row 1 ((List.range n).map fun j=>if j < i then [AV.slice (ids j) 0 w (some w)] else [.nilslice]))
 sub:∀ j,j < i → aa2 H (ids j) = some (.row 1 (List.replicate w (amc 0))) ∧ ids j ≠ a ∧ ids j ≠ b
 ab:a ≠ b
 inj:∀ j k,j < i → k < i → ids j = ids k → j = k
section
variable {H H1:aa4} {R:Nat → Prop} {π:Nat → Option Nat} {a b:Nat} {ids:Nat → Nat} {w n i:Nat}
def Tb0.blocks (a b:Nat) (ids:Nat → Nat) (i:Nat):List Nat:=a :: b :: (List.range i).map ids
theorem Tb0.mem_blocks {c:Nat}:c ∈ Tb0.blocks a b ids i ↔ c = a ∨ c = b ∨ ∃ j,j < i ∧ c = ids j:=by
 unfold Tb0.blocks
 simp only [List.mem_cons,List.mem_map,List.mem_range]
 constructor
 ·rintro (h|h|⟨j,hj,rfl⟩)
  ·exact .inl h
  ·exact .inr (.inl h)
  ·exact .inr (.inr ⟨j,hj,rfl⟩)
 ·rintro (h|h|⟨j,hj,rfl⟩)
  ·exact .inl h
  ·exact .inr (.inl h)
  ·exact .inr (.inr ⟨j,hj,rfl⟩)
theorem Tb0.top_refs (h:Tb0 H a b ids w n i) (hin:i ≤ n) {c:Nat}:c ∈ aas (aa2 H b) ↔ ∃ j,j < i ∧ c = ids j:=by
 rw [h.top]
 show c ∈ ((List.range n).map fun j=>if j < i then [AV.slice (ids j) 0 w (some w)] else [.nilslice]).flatMap aab ↔ _
 simp only [List.mem_flatMap,List.mem_map,List.mem_range]
 constructor
 ·rintro ⟨r,⟨j,hj,rfl⟩,hc⟩
  split at hc
  ·rename_i hji;exact ⟨j,hji,by simpa [aab,refs] using hc⟩
  ·simp [aab,refs] at hc
 ·rintro ⟨j,hj,rfl⟩
  exact ⟨_,⟨j,by omega,rfl⟩,by simp [hj,aab,refs]⟩
theorem Tb0.closed (h:Tb0 H a b ids w n i) (hin:i ≤ n):∀ c ∈ Tb0.blocks a b ids i,∀ d ∈ aas (aa2 H c),d ∈ Tb0.blocks a b ids i:=by
 intro c hc d hd
 rw [Tb0.mem_blocks] at hc ⊢
 rcases hc with rfl|rfl|⟨j,hj,rfl⟩
 ·rw [h.out] at hd
  simp [aas,aab,refs] at hd
  exact .inr (.inl hd)
 ·obtain ⟨j,hj,rfl⟩:=(h.top_refs hin).1 hd
  exact .inr (.inr ⟨j,hj,rfl⟩)
 ·rw [(h.sub j hj).1,aad (FlatR.replicate rfl)] at hd
  simp at hd
theorem Tb0.cost (h:Tb0 H a b ids w n i):((Tb0.blocks a b ids i).map fun c=>(aas (aa2 H c)).length).sum ≤ n + 1:=by
 unfold Tb0.blocks
 have e1:(aas (aa2 H a)).length = 1:=by rw [h.out];rfl
 have e3:(aas (aa2 H b)).length ≤ n:=by
  rw [h.top]
  have hlen:∀ l:List Nat,((l.map fun j=>if j < i then [AV.slice (ids j) 0 w (some w)] else [.nilslice]).flatMap aab).length ≤ l.length:=by
   intro l;induction l with
   | nil=>exact Nat.le_refl _
   | cons x l ih=>
    simp only [List.map_cons,List.flatMap_cons,List.length_append,List.length_cons]
    have:(aab (if x < i then [AV.slice (ids x) 0 w (some w)] else [AV.nilslice])).length ≤ 1:=by split<;>simp [aab,refs]
    omega
  have:=hlen (List.range n)
  rw [List.length_range] at this
  exact this
 have e4:(((List.range i).map ids).map fun c=>(aas (aa2 H c)).length).sum = 0:=by
  refine ak4 _ ?_
  intro c hc
  obtain ⟨j,hj,rfl⟩:=List.mem_map.1 hc
  rw [(h.sub j (by simpa using hj)).1];exact aad (FlatR.replicate rfl)
 simp only [List.map_cons,List.sum_cons,e1,e4]
 omega
theorem Tb0.mv (h:Tb0 H a b ids w n i) (hin:i ≤ n) (hm:Mv H R π H1) (ha:R a):∃ a' b' ids',π a = some a' ∧ Tb0 H1 a' b' ids' w n i:=by
 have hb:R b:=hm.closed a ha b (by rw [h.out];simp [aas,aab,refs])
 have hid:∀ j,j < i → R (ids j):=fun j hj=>hm.closed b hb _ ((h.top_refs hin).2 ⟨j,hj,rfl⟩)
 obtain ⟨a',ea⟩:=hm.here a ha
 obtain ⟨b',eb⟩:=hm.here b hb
 have ei:∀ j,j < i → π (ids j) = some ((π (ids j)).getD 0):=fun j hj=>by obtain ⟨c,hc⟩:=hm.here _ (hid j hj);rw [hc];rfl
 refine ⟨a',b',fun j=>(π (ids j)).getD 0,ea,?_,?_,?_,?_,?_⟩
 ·rw [hm.heap a a' ha ea,h.out]
  simp only [Option.map_some,aat,List.map_cons,List.map_nil,Ax.ren,eb]
 ·rw [hm.heap b b' hb eb,h.top]
  simp only [Option.map_some,aat,List.map_map]
  congr 2
  refine List.map_congr_left fun j hj=>?_
  simp only [Function.comp]
  by_cases hji:j < i
  ·have:=ei j hji
   rw [if_pos hji,if_pos hji]
   simp only [List.map_cons,List.map_nil,Ax.ren]
   rw [this];rfl
  ·rw [if_neg hji,if_neg hji];rfl
 ·intro j hj
  obtain ⟨g1,g2,g3⟩:=h.sub j hj
  have e:=ei j hj
  refine ⟨?_,?_,?_⟩
  ·rw [hm.heap _ _ (hid j hj) e,g1]
   simp only [Option.map_some,aat,aae π (FlatR.replicate (show aab (amc 0) = [] from rfl))]
  ·intro he;rw [he] at e;exact g2 (hm.inj _ _ _ e ea)
  ·intro he;rw [he] at e;exact g3 (hm.inj _ _ _ e eb)
 ·intro e;subst e;exact h.ab (hm.inj _ _ _ ea eb)
 ·intro j k hj hk e
  have e1:=ei j hj
  have e2:=ei k hk
  rw [e] at e1
  exact h.inj j k hj hk (hm.inj _ _ _ e1 e2)
theorem Tb0.same (h:Tb0 H a b ids w n i) (h1:∀ c,(c = a ∨ c = b ∨ ∃ j,j < i ∧ c = ids j) → aa2 H1 c = aa2 H c):Tb0 H1 a b ids w n i:=
 ⟨by rw [h1 a (.inl rfl),h.out],by rw [h1 b (.inr (.inl rfl)),h.top],fun j hj=>by
  obtain ⟨g1,g2⟩:=h.sub j hj
  exact ⟨by rw [h1 (ids j) (.inr (.inr ⟨j,hj,rfl⟩)),g1],g2⟩,h.ab,h.inj⟩
theorem Tb0.add (h:Tb0 H a b ids w n i) (hi:i < n):Tb0 (H.set b (some (.row 1 (((List.range n).map fun j=>if j < i then [AV.slice (ids j) 0 w (some w)] else [.nilslice]).set i [.slice H.length 0 w (some w)]))) ++ [some (.row 1 (List.replicate w (amc 0)))]) a b (fun j=>if j = i then H.length else ids j) w n (i + 1):=by
 have hal:=aac h.out
 have hbl:=aac h.top
 refine ⟨?_,?_,?_,h.ab,?_⟩
 ·rw [ads hal,if_neg (Ne.symm h.ab),h.out]
 ·rw [ads hbl,if_pos rfl]
  congr 2
  apply List.ext_getElem?
  intro j
  rw [List.getElem?_set]
  by_cases hij:i = j
  ·subst hij
   simp [hi]
  ·rw [if_neg hij]
   by_cases hjn:j < n
   ·simp only [List.getElem?_map,List.getElem?_range hjn,Option.map_some,if_neg (Ne.symm hij)]
    congr 1
    by_cases h2:j < i
    ·rw [if_pos h2,if_pos (by omega)]
    ·rw [if_neg h2,if_neg (by omega)]
   ·rw [List.getElem?_eq_none (by simp;omega),List.getElem?_eq_none (by simp;omega)]
 ·intro j hj
  by_cases hji:j = i
  ·subst hji
   simp only [if_true]
   refine ⟨?_,by omega,by omega⟩
   have:=aoa (H:=H) (L:=[some (AObj.row 1 (List.replicate w (amc 0)))]) (a:=b) (o:=some (.row 1 (((List.range n).map fun j'=>if j' < j then [AV.slice (ids j') 0 w (some w)] else [.nilslice]).set j [.slice H.length 0 w (some w)]))) 0
   rw [Nat.add_zero] at this
   rw [this];rfl
  ·simp only [if_neg hji]
   obtain ⟨g1,g2,g3⟩:=h.sub j (by omega)
   refine ⟨?_,g2,g3⟩
   rw [ads (aac g1),if_neg (Ne.symm g3),g1]
 ·intro j k hj hk e
  by_cases h1:j = i<;>by_cases h2:k = i
  ·omega
  ·simp only [h1,if_true,if_neg h2] at e
   have:=aac (h.sub k (by omega)).1
   omega
  ·simp only [h2,if_true,if_neg h1] at e
   have:=aac (h.sub j (by omega)).1
   omega
  ·simp only [if_neg h1,if_neg h2] at e
   exact h.inj j k (by omega) (by omega) e
theorem Tb0.done (h:Tb0 H a b ids w n n) {q:Nat} {fr:Int} (hq:aa2 H q = some (.row 1 [[.int .i64 fr]])) (hqa:q ≠ a) (hqb:q ≠ b) (hqi:∀ j,j < n → ids j ≠ q):Tbl H a b q ids w (List.replicate n (List.replicate w 0#64)) fr:=by
 refine ⟨by rw [List.length_replicate];exact h.out,?_,?_,hq,h.ab,Ne.symm hqa,Ne.symm hqb,fun j k hj hk=>by rw [List.length_replicate] at hj hk;exact h.inj j k hj hk⟩
 ·rw [List.length_replicate,h.top]
  congr 2
  refine List.map_congr_left fun j hj=>?_
  rw [if_pos (by simpa using hj)]
 ·intro j f hf
  rw [List.getElem?_replicate] at hf
  split at hf
  case isFalse=>cases hf
  rename_i hj
  cases hf
  obtain ⟨g1,g2,g3⟩:=h.sub j hj
  exact ⟨by rw [g1,List.map_replicate];rfl,g2,g3,hqi j hj,List.length_replicate⟩
end
theorem ax3 {m:Nat} {keep:List Nat} {F:Frm} {H:aa4} {P:Frm → aa4 → Prop} (hm:m ≤ H.length) (S:List Nat) (h1:∀ b ∈ aab ((aba keep F).map (·.2)),b ∈ S) (h2:∀ b,b < m → aas (aa2 H b) = []) (h3:∀ b ∈ S,∀ c ∈ aas (aa2 H b),c ∈ S)
 (hc:(S.map fun b=>(aas (aa2 H b)).length).sum ≤ 100000) (hl:(aab ((aba keep F).map (·.2))).length ≤ 100)
 (hP:∀ (R:Nat → Prop) (π:Nat → Option Nat) (H1:aa4),Gc m (aba keep F) H R π H1 → m ≤ H1.length → P (auo π (aba keep F)) H1):∃ F1 H1,gcD m keep F H = some (F1,H1) ∧ P F1 H1:=by
 have hlow:((H.take m).flatMap aas).length = 0:=by
  rw [avi H m hm]
  have:∀ l:List Nat,(∀ c ∈ l,aas (aa2 H c) = []) → (l.map fun c=>(aas (aa2 H c)).length).sum = 0:=ak4
  exact this _ (fun c hc=>h2 c (by simpa using hc))
 obtain ⟨R,π,H1,g1,g2,g3⟩:=ax8 (m:=m) (keep:=keep) (F:=F) (H:=H) hm S h1 (fun b hb c hc=>by rw [h2 b hb] at hc;simp at hc) h3 (by omega)
 exact ⟨_,H1,g1,hP R π H1 g2 g3⟩
end Go.Ax
/- AxTab5: a table's number in another cell; a table that is given back. -/
namespace Go.Ax
section
variable {H:aa4} {a b q:Nat} {ids:Nat → Nat} {w:Nat} {fo:List (List (BitVec 64))} {fr:Int}
theorem Tbl.newq (h:Tbl H a b q ids w fo fr) (fr':Int):Tbl (H ++ [some (.row 1 [[.int .i64 fr']])]) a b H.length ids w fo fr':=by
 have hl:=h.lt
 have hne:∀ c ∈ Tbl.blocks a b q ids fo.length,c ≠ H.length:=fun c hc e=>by have:=hl c hc;omega
 have hm:=h.more (L:=[some (.row 1 [[.int .i64 fr']])])
 refine ⟨hm.out,hm.top,?_,ad0,h.ab,hne a (Tbl.mem_blocks.2 (.inl rfl)),hne b (Tbl.mem_blocks.2 (.inr (.inl rfl))),h.inj⟩
 intro j f hf
 obtain ⟨g1,g2,g3,g4,g5⟩:=hm.sub j f hf
 exact ⟨g1,g2,g3,hne _ (Tbl.mem_blocks.2 (.inr (.inr (.inr ⟨j,(List.getElem?_eq_some_iff.1 hf).1,rfl⟩)))),g5⟩
theorem Tb0.more {n i:Nat} {L:aa4} (h:Tb0 H a b ids w n i):Tb0 (H ++ L) a b ids w n i:=by
 refine h.same fun c hc=>ada (eq_true ?_)
 rcases hc with rfl|rfl|⟨j,hj,rfl⟩
 ·exact aac h.out
 ·exact aac h.top
 ·exact aac (h.sub j hj).1
theorem Tb0.lt {n i:Nat} (h:Tb0 H a b ids w n i):a < H.length ∧ b < H.length ∧ ∀ j,j < i → ids j < H.length:=⟨aac h.out,aac h.top,fun j hj=>aac (h.sub j hj).1⟩
theorem Tbl.other (h:Tbl H a b q ids w fo fr) {c k:Nat} {rows:List (List AV)} (hc:aa2 H c = some (.row k rows)) (hk:k ≠ 1):c ∉ Tbl.blocks a b q ids fo.length:=by
 rw [Tbl.mem_blocks]
 rintro (rfl|rfl|rfl|⟨j,hj,rfl⟩)
 ·rw [h.out] at hc;cases hc;exact hk rfl
 ·rw [h.top] at hc;cases hc;exact hk rfl
 ·rw [h.frm] at hc;cases hc;exact hk rfl
 ·obtain ⟨f,hf⟩:∃ f,fo[j]? = some f:=⟨_,List.getElem?_eq_getElem hj⟩
  rw [(h.sub j f hf).1] at hc;cases hc;exact hk rfl
theorem axb {m:Nat} {d:AV → Option AV}:∀ (rows:List (List AV)) (out:List (List AV)),rows.length = out.length → (∀ (j:Nat) r o,rows[j]? = some r → out[j]? = some o → agi m false d r = some o) → ait m d rows = some out
 | [],out,hl,_=>by cases out with|nil=>rfl|cons=>simp at hl
 | r :: rows,[],hl,_=>by simp at hl
 | r :: rows,o :: out,hl,hh=>by
  rw [ako,hh 0 r o rfl rfl]
  simp only [aan]
  rw [axb rows out (by simpa using hl) (fun j r o hr ho=>hh (j + 1) r o (by simpa using hr) (by simpa using ho))]
theorem Tbl.frz (h:Tbl H a b q ids w fo fr) {m:Nat} (hb:m ≤ b) (hi:∀ j,j < fo.length → m ≤ ids j):af5 m true (ajg (aa2 H) m 12) (.slice b 0 fo.length (some fo.length)) = some (.islice (fo.map fun f=>[.islice (f.map amc) (some w)]) (some fo.length)):=by
 rw [ais,decide_eq_false (by omega:¬ b < m),cond_false,ahe (eq_true (by omega:0 < 12)),h.top]
 simp only [ak7,aan,List.length_map,List.length_range,List.drop_zero,Nat.zero_add]
 rw [decide_eq_true (Nat.le_refl _),cond_true,List.take_of_length_le (by simp)]
 rw [axb _ (fo.map fun f=>[.islice (f.map amc) (some w)]) (by simp)]
 intro j r o hr ho
 rw [List.getElem?_map] at ho hr
 cases hf:fo[j]? with
 | none=>rw [hf] at ho;cases ho
 | some f=>
  rw [hf] at ho
  have hj:j < fo.length:=(List.getElem?_eq_some_iff.1 hf).1
  rw [List.getElem?_range hj] at hr
  cases ho;cases hr
  obtain ⟨g1,_,_,_,g5⟩:=h.sub j f hf
  have:=hi j hj
  rw [agc,an2,ais,decide_eq_false (by omega:¬ ids j < m),cond_false,ahe (eq_true (by omega:0 < 11)),g1]
  simp only [ak7,aan,List.drop_zero,Nat.zero_add,List.length_map]
  rw [decide_eq_true (by omega),cond_true,List.take_of_length_le (by simp;omega),aau _ _ (as5 f)]
end
end Go.Ax
/- AxMapS: maps by keys that have an encoding; maps of growing slices of numbers. -/
namespace Go.Ax
section
variable {α:Type} [DecidableEq α] {E:Env} {t kt et:TypeId} {enc:α → AV}
end
/-! ### the values that a key has collected -/
end Go.Ax
/- AxMapT: a map of growing slices of numbers, wherever its blocks lie. -/
namespace Go.Ax
section
variable {α:Type} [DecidableEq α] {enc:α → AV} {H H1:aa4} {R:Nat → Prop} {π:Nat → Option Nat} {c b:Nat} {ids:Nat → Nat} {es:List (α × List Nat)}
end
section
variable {α:Type} [DecidableEq α] {E:Env} {t kt et:TypeId} {enc:α → AV}
end
section
variable {α:Type} [DecidableEq α] {enc:α → AV} {H:aa4} {c b:Nat} {ids:Nat → Nat} {es:List (α × List Nat)}
end
end Go.Ax
