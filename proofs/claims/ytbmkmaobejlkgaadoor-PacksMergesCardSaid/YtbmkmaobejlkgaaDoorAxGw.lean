/- AxGw: a flat block and a slice of rows that grow together. -/
import Derived.Test.YtbmkmaobejlkgaaDoorAxF
import Derived.Test.YtbmkmaobejlkgaaDoorAxE
set_option linter.unusedSimpArgs false
set_option linter.unusedVariables false
namespace Go.Ax
section
variable {H H1:Heap} {R:Nat → Prop} {π:Nat → Option Nat} {w b k:Nat} {ids:Nat → Nat} {cp:Nat → Option Nat} {ws:List (List AV)} {fo:List (List (List AV))}
theorem Two.mv (hg:Mv H R π H1) (h:Two H b k ids cp fo) (hb:R b):∃ b' ids',π b = some b' ∧ Two H1 b' k ids' cp fo ∧ ∀ (j:Nat) (f:List (List AV)),fo[j]? = some f → f ≠ [] → π (ids j) = some (ids' j):=by
 obtain ⟨b',hb'⟩:=hg.here b hb
 have hR:∀ (j:Nat) (f:List (List AV)),fo[j]? = some f → f ≠ [] → R (ids j):=fun j f hf hne=>hg.closed b hb _ (by rw [h.top];exact rows2_refs.2 ⟨j,f,hf,hne,rfl⟩)
 have hsub:∀ (j:Nat) (f:List (List AV)),fo[j]? = some f → f ≠ [] → π (ids j) = some ((π (ids j)).getD 0):=by
  intro j f hf hne
  obtain ⟨c,hc⟩:=hg.here _ (hR j f hf hne)
  rw [hc];rfl
 refine ⟨b',fun j=>(π (ids j)).getD 0,hb',⟨?_,?_,?_,h.flat⟩,hsub⟩
 ·rw [hg.heap b b' hb hb',h.top]
  simp only [Option.map_some,renObj]
  congr 2
  unfold rows2
  apply List.ext_getElem?
  intro j
  simp only [List.getElem?_map,List.getElem?_mapIdx]
  cases hf:fo[j]? with
  | none=>rfl
  | some f=>simp only [Option.map_some,List.map_cons,List.map_nil,slV_ren (hsub j f hf)]
 ·intro j f hf hne
  have e:=hsub j f hf hne
  obtain ⟨h1,h2⟩:=h.sub j f hf hne
  refine ⟨?_,?_⟩
  ·rw [hg.heap _ _ (hR j f hf hne) e,h1]
   simp only [Option.map_some,renObj,renR_flat π (h.flat f (List.mem_of_getElem? hf))]
  ·intro he
   rw [he] at e
   exact h2 (hg.inj _ _ _ e hb')
 ·intro i j f g hf hg' hne hne' e
  have e1:=hsub i f hf hne
  have e2:=hsub j g hg' hne'
  rw [e] at e1
  exact h.inj i j f g hf hg' hne hne' (hg.inj _ _ _ e1 e2)
structure Gw (H:Heap) (w b:Nat) (ids:Nat → Nat) (cp:Nat → Option Nat) (ws:List (List AV)) (fo:List (List (List AV))):Prop where
 out:HeapF H w = some (.row 2 ws)
 flat:FlatR ws
 two:Two H b 1 ids cp fo
 wb:w ≠ b
 wi:∀ (j:Nat) (f:List (List AV)),fo[j]? = some f → f ≠ [] → ids j ≠ w
def twoBl (b:Nat) (ids:Nat → Nat) (fo:List (List (List AV))):List Nat:=b :: ((List.range fo.length).filter fun j=>(fo[j]?).any fun f=>!f.isEmpty).map ids
theorem twoBl_mem {j:Nat} {f:List (List AV)} (hf:fo[j]? = some f) (hne:f ≠ []):ids j ∈ twoBl b ids fo:=by
 unfold twoBl
 refine List.mem_cons_of_mem _ (List.mem_map.2 ⟨j,List.mem_filter.2 ⟨by simpa using (List.getElem?_eq_some_iff.1 hf).1,?_⟩,rfl⟩)
 rw [hf];cases f with|nil=>exact absurd rfl hne|cons=>rfl
theorem twoBl_inv {c:Nat} (h:c ∈ twoBl b ids fo):c = b ∨ ∃ j f,fo[j]? = some f ∧ f ≠ [] ∧ c = ids j:=by
 unfold twoBl at h
 rcases List.mem_cons.1 h with h|h
 ·exact .inl h
 ·obtain ⟨j,hj,rfl⟩:=List.mem_map.1 h
  rw [List.mem_filter] at hj
  obtain ⟨f,hf⟩:∃ f,fo[j]? = some f:=⟨_,List.getElem?_eq_getElem (by simpa using hj.1)⟩
  have:=hj.2
  rw [hf] at this
  exact .inr ⟨j,f,hf,by intro e;rw [e] at this;simp at this,rfl⟩
theorem Two.closed (h:Two H b k ids cp fo):∀ c ∈ twoBl b ids fo,∀ d ∈ refsO (HeapF H c),d ∈ twoBl b ids fo:=by
 intro c hc d hd
 rcases twoBl_inv hc with rfl|⟨j,f,hf,hne,rfl⟩
 ·rw [h.top] at hd
  obtain ⟨j,f,hf,hne,rfl⟩:=rows2_refs.1 hd
  exact twoBl_mem hf hne
 ·rw [(h.sub j f hf hne).1,refsO_flat (h.flat f (List.mem_of_getElem? hf))] at hd;simp at hd
theorem Two.cost (h:Two H b k ids cp fo):((twoBl b ids fo).map fun c=>(refsO (HeapF H c)).length).sum ≤ fo.length:=by
 have hz:((((List.range fo.length).filter fun j=>(fo[j]?).any fun f=>!f.isEmpty).map ids).map fun c=>(refsO (HeapF H c)).length).sum = 0:=sum_zero _ (by
  intro c hc
  obtain ⟨j,hj,rfl⟩:=List.mem_map.1 hc
  rw [List.mem_filter] at hj
  obtain ⟨f,hf⟩:∃ f,fo[j]? = some f:=⟨_,List.getElem?_eq_getElem (by simpa using hj.1)⟩
  have:=hj.2
  rw [hf] at this
  rw [(h.sub j f hf (by intro e;rw [e] at this;simp at this)).1]
  exact refsO_flat (h.flat f (List.mem_of_getElem? hf)))
 unfold twoBl
 rw [List.map_cons,List.sum_cons,hz,Nat.add_zero,h.top]
 show ((rows2 ids cp fo).flatMap refsL).length ≤ _
 have:∀ (l:List (List AV)),(∀ r ∈ l,(refsL r).length ≤ 1) → (l.flatMap refsL).length ≤ l.length:=by
  intro l
  induction l with
  | nil=>intro _;simp
  | cons r l ih=>
   intro hl
   have h1:=hl r (by simp)
   have h2:=ih (fun r hr=>hl r (by simp [hr]))
   simp only [List.flatMap_cons,List.length_append,List.length_cons];omega
 have h2:=this (rows2 ids cp fo) (by
  intro r hr
  obtain ⟨j,hj⟩:=List.mem_iff_getElem?.1 hr
  unfold rows2 at hj
  rw [List.getElem?_mapIdx] at hj
  cases hf:fo[j]? with
  | none=>rw [hf] at hj;cases hj
  | some f=>rw [hf] at hj;cases hj;simp only [refsL,slV_refs];split<;>simp)
 rw [rows2_len] at h2;exact h2
theorem Two.lt (h:Two H b k ids cp fo):∀ c ∈ twoBl b ids fo,c < H.length:=by
 intro c hc
 rcases twoBl_inv hc with rfl|⟨j,f,hf,hne,rfl⟩
 ·exact heapF_lt h.top
 ·exact heapF_lt (h.sub j f hf hne).1
theorem Gw.head {keep:List Nat} {F:Frm} {P:Frm → Heap → Prop} (h:Gw H w b ids cp ws fo) (hF:∀ c ∈ refsL ((keepF keep F).map (·.2)),c = w ∨ c = b) (hw:w ∈ refsL ((keepF keep F).map (·.2))) (hb:b ∈ refsL ((keepF keep F).map (·.2))) (hl:(refsL ((keepF keep F).map (·.2))).length ≤ 10) (hn:fo.length < 900000)
 (hP:∀ π w' b' ids' H1,π w = some w' → π b = some b' → Gw H1 w' b' ids' cp ws fo → P (renF π (keepF keep F)) H1):∃ F1 H1,gcD 0 keep F H = some (F1,H1) ∧ P F1 H1:=by
 have hcost:=h.two.cost
 obtain ⟨R,π,H1,g1,g2,_⟩:=gc_gen (m:=0) (keep:=keep) (F:=F) (H:=H) (Nat.zero_le _) (w :: twoBl b ids fo) (fun c hc=>by
  rcases hF c hc with rfl|rfl
  ·simp
  ·simp [twoBl]) (fun c hc=>absurd hc (Nat.not_lt_zero c)) (by
  intro c hc d hd
  rcases List.mem_cons.1 hc with rfl|hc
  ·rw [h.out,refsO_flat h.flat] at hd;simp at hd
  ·exact List.mem_cons_of_mem _ (h.two.closed c hc d hd)) (by
  have e:(refsO (HeapF H w)).length = 0:=by rw [h.out,refsO_flat h.flat];rfl
  simp only [List.map_cons,List.sum_cons,e,List.take_zero,List.flatMap_nil,List.length_nil]
  omega)
 have hm:=g2.mv
 have hRw:=g2.refs w hw
 obtain ⟨w',hw'⟩:=hm.here w hRw
 obtain ⟨b',ids',e1,e2,e3⟩:=h.two.mv hm (g2.refs b hb)
 refine ⟨_,H1,g1,hP π w' b' ids' H1 hw' e1 ⟨?_,h.flat,e2,?_,?_⟩⟩
 ·rw [g2.heap w w' hw',h.out]
  simp only [Option.map_some,renObj,renR_flat π h.flat]
 ·intro e;subst e;exact h.wb (hm.inj _ _ _ hw' e1)
 ·intro j f hf hne e
  have:=e3 j f hf hne
  rw [e] at this
  exact h.wi j f hf hne (hm.inj _ _ _ this hw')
theorem Gw.new (h:Gw H w b ids cp ws fo) {w' b' x':Nat} {x:List AV} {z:List AV} {q:Option Nat} (hx:refsL x = []) (hz:refsL z = []) (h1:HeapF H1 w' = some (.row 2 (ws ++ [x]))) (h2:HeapF H1 b' = some (.row 1 (rows2 ids cp fo ++ [[.slice x' 0 1 q]]))) (h3:HeapF H1 x' = some (.row 1 [z]))
 (h4:∀ c,c < H.length → c ≠ w → c ≠ b → HeapF H1 c = HeapF H c) (l1:H.length ≤ w') (l2:H.length ≤ b') (l3:H.length ≤ x') (n1:w' ≠ b') (n2:x' ≠ w') (n3:x' ≠ b') :
 Gw H1 w' b' (fun j=>if j = fo.length then x' else ids j) (fun j=>if j = fo.length then q else cp j) (ws ++ [x]) (fo ++ [[z]]):=by
 have hat:∀ (j:Nat) (f:List (List AV)),(fo ++ [[z]])[j]? = some f → (j = fo.length ∧ f = [z]) ∨ (j ≠ fo.length ∧ fo[j]? = some f):=by
  intro j f hf
  by_cases hj:j < fo.length
  ·rw [List.getElem?_append_left hj] at hf;exact .inr ⟨by omega,hf⟩
  ·have hjl:=(List.getElem?_eq_some_iff.1 hf).1
   simp only [List.length_append,List.length_singleton] at hjl
   obtain rfl:j = fo.length:=by omega
   rw [List.getElem?_append_right (Nat.le_refl _)] at hf
   simp only [Nat.sub_self,List.getElem?_cons_zero,Option.some.injEq] at hf
   exact .inl ⟨rfl,hf.symm⟩
 have hold:∀ (j:Nat) (f:List (List AV)),fo[j]? = some f → f ≠ [] → HeapF H1 (ids j) = some (.row 1 f) ∧ ids j < H.length:=by
  intro j f hf hne
  obtain ⟨g1,g2⟩:=h.two.sub j f hf hne
  have hl:=heapF_lt g1
  exact ⟨by rw [h4 _ hl (h.wi j f hf hne) g2,g1],hl⟩
 refine ⟨h1,h.flat.append (FlatR.cons hx FlatR.nil),⟨?_,?_,?_,?_⟩,n1,?_⟩
 ·rw [h2]
  congr 2
  unfold rows2
  rw [List.mapIdx_append]
  congr 1
  ·apply List.ext_getElem?
   intro j
   rw [List.getElem?_mapIdx,List.getElem?_mapIdx]
   cases hf:fo[j]? with
   | none=>rfl
   | some f=>
    have:=(List.getElem?_eq_some_iff.1 hf).1
    simp only [Option.map_some,if_neg (show j ≠ fo.length by omega)]
  ·simp [slV]
 ·intro j f hf hne
  rcases hat j f hf with ⟨rfl,rfl⟩|⟨hj,hf'⟩
  ·simp only [if_true];exact ⟨h3,n3⟩
  ·simp only [if_neg hj]
   obtain ⟨g1,g2⟩:=hold j f hf' hne
   exact ⟨g1,by omega⟩
 ·intro i j f g hf hg hne hne' e
  rcases hat i f hf with ⟨rfl,rfl⟩|⟨hi,hf'⟩<;>rcases hat j g hg with ⟨rfl,rfl⟩|⟨hj,hg'⟩
  ·rfl
  ·simp only [if_true,if_neg hj] at e
   have:=(hold j g hg' hne').2;omega
  ·simp only [if_true,if_neg hi] at e
   have:=(hold i f hf' hne).2;omega
  ·simp only [if_neg hi,if_neg hj] at e
   exact h.two.inj i j f g hf' hg' hne hne' e
 ·intro f hf
  rw [List.mem_append,List.mem_singleton] at hf
  rcases hf with hf|rfl
  ·exact h.two.flat f hf
  ·exact FlatR.cons hz FlatR.nil
 ·intro j f hf hne
  rcases hat j f hf with ⟨rfl,rfl⟩|⟨hj,hf'⟩
  ·simp only [if_true];exact n2
  ·simp only [if_neg hj]
   have:=(hold j f hf' hne).2;omega
theorem Gw.first {w' b' x':Nat} {x:List AV} {z:List AV} {q:Option Nat} (hx:refsL x = []) (hz:refsL z = []) (h1:HeapF H1 w' = some (.row 2 [x])) (h2:HeapF H1 b' = some (.row 1 [[.slice x' 0 1 q]])) (h3:HeapF H1 x' = some (.row 1 [z])) (n1:w' ≠ b') (n2:x' ≠ w') (n3:x' ≠ b') :
 Gw H1 w' b' (fun _=>x') (fun _=>q) [x] [[z]]:=by
 have hat:∀ (j:Nat) (f:List (List AV)),[[z]][j]? = some f → j = 0 ∧ f = [z]:=by
  intro j f hf
  cases j with
  | zero=>simp at hf;exact ⟨rfl,hf.symm⟩
  | succ j=>simp at hf
 refine ⟨h1,FlatR.cons hx FlatR.nil,⟨h2,fun j f hf hne=>?_,fun i j f g hf hg _ _ _=>?_,fun f hf=>?_⟩,n1,fun j f _ _=>n2⟩
 ·obtain ⟨rfl,rfl⟩:=hat j f hf;exact ⟨h3,n3⟩
 ·rw [(hat i f hf).1,(hat j g hg).1]
 ·rw [List.mem_singleton] at hf;subst hf;exact FlatR.cons hz FlatR.nil
theorem Gw.upd (h:Gw H w b ids cp ws fo) {k n:Nat} {f:List (List AV)} {x z:List AV} (hf:fo[k]? = some f) (hx:refsL x = []) (hz:refsL z = []) (hn:H.length ≤ n)
 (h1:HeapF H1 w = some (.row 2 (ws.set k x))) (h2:HeapF H1 b = some (.row 1 ((rows2 ids cp fo).set k [.slice n 0 (f.length + 1) none]))) (h3:HeapF H1 n = some (.row 1 (f ++ [z])))
 (h4:∀ c,c < H.length → c ≠ w → c ≠ b → (f ≠ [] → c ≠ ids k) → HeapF H1 c = HeapF H c) :
 Gw H1 w b (fun i=>if i = k then n else ids i) (fun i=>if i = k then none else cp i) (ws.set k x) (fo.set k (f ++ [z])):=by
 have hkl:k < fo.length:=(List.getElem?_eq_some_iff.1 hf).1
 have hwl:=heapF_lt h.out
 have hbl:=heapF_lt h.two.top
 have hat:∀ (j:Nat) (g:List (List AV)),(fo.set k (f ++ [z]))[j]? = some g → (j = k ∧ g = f ++ [z]) ∨ (j ≠ k ∧ fo[j]? = some g):=by
  intro j g hg
  rw [List.getElem?_set] at hg
  by_cases hj:k = j
  ·subst hj
   simp only [if_true,hkl,Option.some.injEq] at hg
   exact .inl ⟨rfl,hg.symm⟩
  ·rw [if_neg hj] at hg;exact .inr ⟨Ne.symm hj,hg⟩
 have hold:∀ (j:Nat) (g:List (List AV)),j ≠ k → fo[j]? = some g → g ≠ [] → HeapF H1 (ids j) = some (.row 1 g) ∧ ids j < H.length:=by
  intro j g hj hg hne
  obtain ⟨g1,g2⟩:=h.two.sub j g hg hne
  have hl:=heapF_lt g1
  exact ⟨by rw [h4 _ hl (h.wi j g hg hne) g2 (fun hfn e=>hj (h.two.inj j k g f hg hf hne hfn e)),g1],hl⟩
 refine ⟨h1,fun r hr=>?_,⟨?_,?_,?_,?_⟩,h.wb,?_⟩
 ·rcases List.mem_or_eq_of_mem_set hr with h'|rfl
  ·exact h.flat r h'
  ·exact hx
 ·rw [h2]
  congr 2
  apply List.ext_getElem?
  intro i
  unfold rows2
  rw [List.getElem?_set,List.length_mapIdx]
  by_cases hik:k = i
  ·subst hik
   simp only [if_true,hkl]
   rw [List.getElem?_mapIdx,List.getElem?_set]
   simp only [if_true,hkl,Option.map_some]
   rw [slV_none,grV_snoc]
  ·rw [if_neg hik,List.getElem?_mapIdx,List.getElem?_mapIdx,List.getElem?_set,if_neg hik]
   simp only [if_neg (Ne.symm hik)]
 ·intro j g hg hne
  rcases hat j g hg with ⟨rfl,rfl⟩|⟨hj,hg'⟩
  ·simp only [if_true];exact ⟨h3,by omega⟩
  ·simp only [if_neg hj]
   exact ⟨(hold j g hj hg' hne).1,(h.two.sub j g hg' hne).2⟩
 ·intro i j g g' hg hg' hne hne' e
  rcases hat i g hg with ⟨rfl,rfl⟩|⟨hi,hgi⟩<;>rcases hat j g' hg' with ⟨rfl,rfl⟩|⟨hj,hgj⟩
  ·rfl
  ·simp only [if_true,if_neg hj] at e
   have:=(hold j g' hj hgj hne').2;omega
  ·simp only [if_true,if_neg hi] at e
   have:=(hold i g hi hgi hne).2;omega
  ·simp only [if_neg hi,if_neg hj] at e
   exact h.two.inj i j g g' hgi hgj hne hne' e
 ·intro g hg
  rcases List.mem_or_eq_of_mem_set hg with hg|rfl
  ·exact h.two.flat g hg
  ·exact (h.two.flat f (List.mem_of_getElem? hf)).append (FlatR.cons hz FlatR.nil)
 ·intro j g hg hne
  rcases hat j g hg with ⟨rfl,rfl⟩|⟨hj,hg'⟩
  ·simp only [if_true];omega
  ·simp only [if_neg hj];exact h.wi j g hg' hne
theorem Gw.clip (h:Gw H w b ids cp ws fo) {j c:Nat} {f:List (List AV)} (hf:fo[j]? = some f) (h1:HeapF H1 b = some (.row 1 ((rows2 ids cp fo).set j [slV (ids j) (some c) f])))
 (h3:∀ c,c ≠ b → HeapF H1 c = HeapF H c):Gw H1 w b ids (fun i=>if i = j then some c else cp i) ws fo:=
 ⟨by rw [h3 w h.wb,h.out],h.flat,h.two.clip hf h1 h3,h.wb,h.wi⟩
end
theorem callV_pass {E:Env} {d:Bool} {call:CallF} {g:FuncId} {H:Heap} {w b:Nat} {ids:Nat → Nat} {cp:Nat → Option Nat} {ws:List (List AV)} {fo:List (List (List AV))} {n:Nat} {c c':Option Nat} (hx:E.ext g = false) (hf:(E.fn g).isSome = true)
 (h:Gw H w b ids cp ws fo) (hn:fo.length ≤ 1000)
 (hrun:∀ (H0:Heap) (b':Nat) (R:List (List AV)),HeapF H0 b' = some (.row 1 R) → (∀ x,∀ y ∈ refsO (HeapF H0 x),y < H0.length) → call g [.slice b' 0 n c] H0 = some (.slice b' 0 n c',H0)) :
 ∃ H' σ ids',callV E d call (.func (.func g) [] []) [.slice b 0 n c] H = some (.slice b 0 n c',H',σ) ∧ Gw H' w b ids' cp ws fo ∧ H'.length = H.length:=by
 have hrf:refsL ([] ++ [AV.slice b 0 n c] ++ []) = [b]:=rfl
 have hcost:=h.two.cost
 obtain ⟨σ,hr,hlt,hgo⟩:=callLoc_rel (call g) ([] ++ [AV.slice b 0 n c] ++ []) H (twoBl b ids fo) (by rw [hrf];simp [twoBl]) h.two.closed h.two.lt (by rw [hrf];simp only [List.length_cons,List.length_nil];omega)
 rw [hrf] at hr
 have hsub:∀ x ∈ σ,x ∈ twoBl b ids fo:=hr.least (·∈ twoBl b ids fo) (by simp [twoBl]) (fun x hx y hy=>h.two.closed x hx y hy)
 have hmv:=mv_small hr
 have hbσ:=hr.start b (by simp)
 obtain ⟨b',ids',e1,e2,e3⟩:=h.two.mv hmv hbσ
 have hslen:(smallH H σ (piOf σ)).length = σ.length:=by simp [smallH]
 have hall:∀ x,x < (smallH H σ (piOf σ)).length → x ∈ twoBl b' ids' fo:=by
  intro j hj
  rw [hslen] at hj
  obtain ⟨x,hx⟩:∃ x,σ[j]? = some x:=⟨_,List.getElem?_eq_getElem hj⟩
  have hpi:piOf σ x = some j:=idxOf_of_get hr.nodup hx
  rcases twoBl_inv (hsub x (List.mem_of_getElem? hx)) with rfl|⟨i,f,hf,hne,rfl⟩
  ·rw [hpi] at e1;cases e1;simp [twoBl]
  ·have:=e3 i f hf hne;rw [hpi] at this;cases this;exact twoBl_mem hf hne
 have hlow:∀ x,∀ y ∈ refsO (HeapF (smallH H σ (piOf σ)) x),y < (smallH H σ (piOf σ)).length:=by
  intro x y hy
  by_cases hxl:x < (smallH H σ (piOf σ)).length
  ·exact e2.lt y (e2.closed x (hall x hxl) y hy)
  ·have:HeapF (smallH H σ (piOf σ)) x = none:=by unfold HeapF;rw [List.getElem?_eq_none (by omega)];rfl
   rw [this] at hy;simp [refsO] at hy
 have hbl:=heapF_lt e2.top
 have hc1:=hrun _ b' _ e2.top hlow
 have hra:([] ++ [AV.slice b 0 n c] ++ []).map (ren (piOf σ)) = [.slice b' 0 n c]:=by
  simp only [List.nil_append,List.append_nil,List.map_cons,List.map_nil,ren,e1]
 have hgo:=hgo (.slice b' 0 n c') _ (by rw [hra];exact hc1)
 have hd:((smallH H σ (piOf σ)).drop σ.length) = []:=List.drop_eq_nil_of_le (by rw [hslen];exact Nat.le_refl _)
 have hbk0:backOf σ H.length b' = some b:=back_pi e1
 rw [hd,List.map_nil,List.append_nil] at hgo
 simp only [ren,hbk0] at hgo
 have hbk:=mv_back (H:=H) (H1:=smallH H σ (piOf σ)) hr.nodup hlt (fun j=>j < σ.length) (fun j hj=>hj) (by
  intro j hj x hx
  have:=hlow j x hx
  rw [hslen] at this;exact this)
 obtain ⟨b2,ids2,f1,f2,f3⟩:=e2.mv hbk (by rw [hslen] at hbl;exact hbl)
 rw [hbk0] at f1
 cases f1
 have hlen:(putBack σ H.length (smallH H σ (piOf σ)) 0 H).length = H.length:=putBack_len 0 H
 have hids:∀ (j:Nat) (f:List (List AV)),fo[j]? = some f → f ≠ [] → ids2 j = ids j:=by
  intro j f hf hne
  have h1:=f3 j f hf hne
  rw [back_pi (e3 j f hf hne)] at h1
  exact (Option.some.inj h1).symm
 have hwσ:w ∉ σ:=by
  intro hw
  rcases twoBl_inv (hsub w hw) with e|⟨j,f,hf,hne,e⟩
  ·exact h.wb e
  ·exact h.wi j f hf hne e.symm
 refine ⟨_,σ,ids2,?_,⟨?_,h.flat,f2,h.wb,fun j f hf hne=>by rw [hids j f hf hne];exact h.wi j f hf hne⟩,hlen⟩
 ·have hb:Nat.ble H.length (putBack σ H.length (smallH H σ (piOf σ)) 0 H).length = true:=by rw [hlen,Nat.ble_eq];exact Nat.le_refl _
  simp only [List.append_nil] at hgo
  simp only [callV,hx,hf,List.append_nil,hgo,hb,cond_true,cond_false,Bool.not_true,Bool.and_false]
 ·have hput:HeapF (putBack σ H.length (smallH H σ (piOf σ)) 0 H) w = HeapF H w:=by
   unfold HeapF
   rw [putBack_get2,Nat.zero_add]
   have:σ.idxOf? w = none:=by rw [List.idxOf?_eq_none_iff];exact hwσ
   rw [this]
   cases H[w]?<;>rfl
  rw [hput,h.out]
end Go.Ax
