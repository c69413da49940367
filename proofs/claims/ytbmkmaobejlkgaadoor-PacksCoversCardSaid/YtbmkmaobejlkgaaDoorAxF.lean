/- AxTab: a table of rows of words in blocks, wherever they lie; heads of loops and calls over it. -/
import Derived.Test.YtbmkmaobejlkgaaDoorAxE
set_option linter.unusedSimpArgs false
set_option linter.unusedVariables false
namespace Go.Ax
section
variable {H H1:Heap} {R:Nat → Prop} {π:Nat → Option Nat} {a b q:Nat} {ids:Nat → Nat} {w:Nat} {fo:List (List (BitVec 64))} {fr:Int}
end
/-! ### calls, wherever the blocks lie -/
end Go.Ax
/- AxTab2: a table that a call has been given: heads of loops and calls that write it. -/
namespace Go.Ax
section
variable {H H1:Heap} {a b q:Nat} {ids:Nat → Nat} {w:Nat} {fo:List (List (BitVec 64))} {fr:Int}
mutual
theorem ren_below {m:Nat} {π:Nat → Option Nat} (hπ:∀ c,c < m → π c = some c):∀ (v:AV),(∀ c ∈ refs v,c < m) → ren π v = v
 | .ptr b i o,h=>by simp only [ren,hπ b (h b (by simp [refs]))]
 | .slice b o l c,h=>by simp only [ren,hπ b (h b (by simp [refs]))]
 | .map b,h=>by simp only [ren,hπ b (h b (by simp [refs]))]
 | .yfn b,h=>by simp only [ren,hπ b (h b (by simp [refs]))]
 | .func fn fs cs,h=>by
  simp only [refs,List.mem_append] at h
  simp only [ren,renL_below hπ fs (fun c hc=>h c (.inl hc)),renL_below hπ cs (fun c hc=>h c (.inr hc))]
 | .iface t x,h=>by simp only [refs] at h;simp only [ren,ren_below hπ x h]
 | .agg cs,h=>by simp only [refs] at h;simp only [ren,renL_below hπ cs h]
 | .tuple cs,h=>by simp only [refs] at h;simp only [ren,renL_below hπ cs h]
 | .junk,_|.bool _,_|.int ..,_|.str _,_|.nilptr,_|.nilslice,_|.nilmap,_|.nilfunc,_|.nilifc,_|.iptr _,_|.islice ..,_|.imap ..,_|.iset _,_=>rfl
theorem renL_below {m:Nat} {π:Nat → Option Nat} (hπ:∀ c,c < m → π c = some c):∀ (l:List AV),(∀ c ∈ refsL l,c < m) → renL π l = l
 | [],_=>rfl
 | v :: vs,h=>by
  simp only [refsL,List.mem_append] at h
  simp only [renL,ren_below hπ v (fun c hc=>h c (.inl hc)),renL_below hπ vs (fun c hc=>h c (.inr hc))]
end
theorem renM_below {m:Nat} {π:Nat → Option Nat} (hπ:∀ c,c < m → π c = some c) (l:List AV) (h:∀ c ∈ refsL l,c < m):l.map (ren π) = l:=by rw [← renL_eq];exact renL_below hπ l h
theorem renO_below {m:Nat} {π:Nat → Option Nat} (hπ:∀ c,c < m → π c = some c) (o:AObj) (h:∀ c ∈ refsO (some o),c < m):renObj π o = o:=by
 cases o with
 | row k rows=>
  simp only [renObj]
  congr 1
  conv=>rhs;rw [← List.map_id rows]
  refine List.map_congr_left fun r hr=>?_
  refine renM_below hπ r fun e he=>h e ?_
  simp only [refsO,List.mem_flatMap];exact ⟨r,hr,he⟩
 | map ks vs bs cl=>
  simp only [renObj]
  rw [renM_below hπ ks (fun e he=>h e (by simp [refsO,he])),renM_below hπ vs (fun e he=>h e (by simp [refsO,he]))]
 | siter s p=>rfl
 | uset ks=>rfl
 | miter ks vis arm=>rfl
 | yloop y Fy st=>
  simp only [renObj]
  congr 1
  conv=>rhs;rw [← List.map_id Fy]
  refine List.map_congr_left fun x hx=>?_
  rw [ren_below hπ x.2 fun c hc=>h c (refsF_mem hx hc)];rfl
theorem renF_below {m:Nat} {π:Nat → Option Nat} (hπ:∀ c,c < m → π c = some c):∀ F:Frm,(∀ c ∈ refsL (F.map (·.2)),c < m) → renF π F = F
 | [],_=>rfl
 | (s,v) :: F,h=>by
  simp only [List.map_cons,refsL,List.mem_append] at h
  have:=renM_below hπ [v] (by simp only [refsL,List.append_nil];exact fun c hc=>h c (.inl hc))
  simp only [List.map_cons,List.map_nil,List.cons.injEq,and_true] at this
  rw [renF_cons,this,renF_below hπ F (fun c hc=>h c (.inr hc))]
end
theorem refsL_append (a b:List AV):refsL (a ++ b) = refsL a ++ refsL b:=by
 induction a with
 | nil=>rfl
 | cons v a ih=>simp only [List.cons_append,refsL,ih,List.append_assoc]
end Go.Ax
/- AxLow: a loop's head over blocks that all stood before the call and refer to nothing. -/
namespace Go.Ax
theorem heap_ext {H H1:Heap} (hl:H1.length = H.length) (h:∀ b,b < H.length → HeapF H1 b = HeapF H b):H1 = H:=by
 apply List.ext_getElem hl
 intro b h1 h2
 have:=h b h2
 unfold HeapF at this
 rw [List.getElem?_eq_getElem h1,List.getElem?_eq_getElem h2] at this
 exact this
theorem gc_low {keep:List Nat} {F F':Frm} {H:Heap} (hk:keepF keep F = F') (hF:∀ b ∈ refsL (F'.map (·.2)),b < H.length) (hn:(refsL (F'.map (·.2))).length < 1000) (hH:∀ b,refsO (HeapF H b) = []):gcD H.length keep F H = some (F',H):=by
 subst hk
 have hsum:((List.range H.length).map fun b=>(refsO (HeapF H b)).length).sum = 0:=by
  have:((List.range H.length).map fun b=>(refsO (HeapF H b)).length) = List.replicate H.length 0:=by
   rw [← List.length_range (n:=H.length),← List.map_const',List.length_range]
   exact List.map_congr_left fun b _=>by rw [hH];rfl
  rw [this];simp
 have hfl:(H.take H.length).flatMap refsO = []:=by
  rw [List.take_length,List.flatMap_eq_nil_iff]
  intro o ho
  obtain ⟨b,hb⟩:=List.mem_iff_getElem?.1 ho
  have:=hH b
  unfold HeapF at this
  rw [hb] at this
  exact this
 obtain ⟨R,π,H1,h1,hg,hl⟩:=gc_gen (m:=H.length) (keep:=keep) (F:=F) (H:=H) (Nat.le_refl _) (List.range H.length) (fun b hb=>List.mem_range.2 (hF b hb)) (fun b _ c hc=>by rw [hH] at hc;simp at hc) (fun b _ c hc=>by rw [hH] at hc;simp at hc) (by rw [hsum,hfl];simp only [List.length_nil];omega)
 have hlen:H1.length = H.length:=by
  have:=hg.len [] (fun b hR hb=>by
   have:=hg.least (fun b=>b < H.length) hF (fun b _ c hc=>by rw [hH] at hc;simp at hc) (fun b _ c hc=>by rw [hH] at hc;simp at hc) b hR
   omega)
  simp only [List.length_nil,Nat.add_zero] at this
  omega
 rw [h1,renF_below hg.low _ hF]
 have:H1 = H:=heap_ext hlen fun b hb=>by
  rw [hg.heap b b (hg.low b hb)]
  cases ho:HeapF H b with
  | none=>rfl
  | some o=>
   have h2:=hH b
   rw [ho] at h2
   simp only [Option.map_some]
   rw [renO_below hg.low o (fun c hc=>by rw [h2] at hc;simp at hc)]
 rw [this]
end Go.Ax
/- AxMelt: calls over flat arguments that return a pointer to a block of their own. -/
namespace Go.Ax
@[go_sem] theorem melt_nilS {m:Nat} {H:Heap}:melt m .nilslice H = some (.nilslice,(H.take m).map (Option.map (renObj (piBelow m)))):=by rfl
end Go.Ax
/- AxCpy: copy and clear, ar rewrite rules. -/
namespace Go.Ax
section
variable {E:Env} {draw:Bool} {call:CallF} {F:Frm} {H:Heap} {h:FHeap}
@[go_sem] theorem st_clear (x:Operand) (t:TypeId):stepOp E draw call F H (.call { callee:=.builtin .clear,args:=#[x],argTypes:=#[t] }) = obind (aclear E (HeapF H) t (opv E F x)) fun z=>bif z.2.fits H.length then some (z.1,effH H z.2,⟨topRef (opv E F x),z.2.keys H.length⟩) else none:=
 step_eff rfl rfl (by simp [aneeds])
def cpyT (E:Env) (t:TypeId):Option Nat:=match E.und t with
 | some (.slice e)=>bif (E.und e).isSome then some (E.sz e) else none
 | _=>none
def clrT (E:Env) (t:TypeId):Option (Nat × List AV):=match E.und t with
 | some (.slice e)=>match E.zero e with|some z=>bif z.all AV.storable then some (E.sz e,z) else none|none=>none
 | _=>none
theorem aclear_slice (t:TypeId) (b o l:Nat) (c:Option Nat) (hl:(l = 0) = False):aclear E h t (.slice b o l c) = obind (clrT E t) fun kz=>obind (rowO (h b)) fun kr=>
 bif decide (kr.1 = kz.1) && decide (o + l ≤ kr.2.length) then some (.tuple [],.set b (.row kr.1 (kr.2.take o ++ List.replicate l kz.2 ++ kr.2.drop (o + l)))) else none:=by
 have h0:Nat.beq l 0 = false:=by rw [nbeq,beqN];exact decide_eq_false (by rw [hl];exact id)
 unfold aclear clrT
 cases E.und t with
 | none=>rfl
 | some d=>
  cases d<;>try rfl
  rename_i e
  simp only [h0,cond_false]
  cases E.zero e with
  | none=>rfl
  | some z=>
   simp only [obind]
   cases hb:h b with
   | none=>cases z.all AV.storable<;>simp [hb,rowO]
   | some ob=>cases ob<;>cases hz:z.all AV.storable<;>simp [hb,rowO,beqN,bleD]
attribute [go_sem] aclear_slice
end
section
variable {E:Env} {t:TypeId} {c:Bool} {x y:BitVec 64}
end
section
variable {E:Env} {h:FHeap} {t:TypeId}
@[go_sem] theorem aslice_sll {b o n:Nat} {c:Option Nat} {k:IntKind} {i:Int}:aslice E h t (.slice b o n c) (some (.int k i)) none none = obind (slT E t) fun e=>obind (rowO (h b)) fun kr=>bif isT E e && decide (kr.1 = E.sz e) && inB i n then some (.slice b (o + i.toNat) (n - i.toNat) (c.map (·- i.toNat))) else none:=by
 cases hs:slT E t with
 | none=>exact aslice_T hs (fun _ h=>by cases h)
 | some e=>
  simp only [aslice,slT_iff.1 hs,obind,abound_i,isT]
  cases hb:h b with
  | none=>cases (E.und e).isSome<;>rfl
  | some ob=>cases ob with
   | map=>cases (E.und e).isSome<;>rfl
   | siter=>cases (E.und e).isSome<;>rfl
   | uset=>cases (E.und e).isSome<;>rfl
   | miter=>cases (E.und e).isSome<;>rfl
   | yloop=>cases (E.und e).isSome<;>rfl
   | row kk rows=>
    simp only [rowO,beqN]
    have e0:∀ m,abound (none:Option AV) m n = some n:=fun _=>rfl
    cases (E.und e).isSome<;>cases decide (kk = E.sz e)<;>first|rfl|(simp only [cond_true,Bool.true_and,e0];cases inB i n<;>rfl)
end
end Go.Ax
/- AxFz: a loop that freezes at its end, as rewrite rules. -/
namespace Go.Ax
@[go_sem] theorem frzS_eq (m:Nat) (H:Heap) (v:AV):frzS m H v = (frzV m true (frzD (HeapF H) m 12) v).getD .junk:=by
 unfold frzS;cases frzV m true (frzD (HeapF H) m 12) v<;>rfl
@[go_sem] theorem frz_junk (m:Nat) (top:Bool) (d:AV → Option AV):frzV m top d .junk = some .junk:=by rfl
@[go_sem] theorem frzF_cons (m:Nat) (H:Heap) (s:Nat) (v:AV) (F:Frm):frzF m H ((s,v) :: F) = (s,frzS m H v) :: frzF m H F:=by rfl
@[go_sem] theorem frzF_nil (m:Nat) (H:Heap):frzF m H [] = []:=by rfl
@[go_sem] theorem frzH_0 (H:Heap):frzH 0 H = []:=by simp [frzH]
@[go_sem] theorem getD_some' {α:Type} (a b:α):(some a).getD b = a:=by rfl
@[go_sem] theorem getF_none (s:Nat):getF [] s = .junk:=by rfl
@[go_sem] theorem refs_junk:refs .junk = []:=by rfl
theorem fz_rw (m:Nat) (Q:Post) (e:AExit) (F:Frm) (H:Heap):fz m Q e F H = Q e (frzF m H F) (frzH m H):=by rfl
end Go.Ax
/- AxMl: a loop over a set of numbers: as a condition on its end. -/
namespace Go.Ax
theorem sameH_self:∀ H:Heap,sameH H H = true
 | []=>rfl
 | a :: H=>by simp only [sameH,sameO_self,sameH_self H,Bool.and_self]
theorem same3_self (r:R3):same3 (some r) r = true:=by
 obtain ⟨e,F,H⟩:=r
 simp only [same3,sameF_self,sameH_self,Bool.and_self,Bool.and_true]
 cases e<;>simp [sameE]
def AExit.isN:AExit → Bool
 | .normal=>true
 | _=>false
def mlp (m:Nat) (keep:List Nat) (F2:Frm) (H2:Heap):Post:=fun e F H=>match e with|.normal=>gcD m keep F H = some (F2,H2)|_=>False
def mle (it:Nat) (e0:AExit) (F0:Frm) (H0:Heap):Post:=fun e F H=>e = e0 ∧ F = F0 ∧ dropIt F H it = H0
def Wq (x:Cx) (ops ors:List Oper) (rest:Code) (nx:Nat) (v:AV) (F:Frm) (H:Heap) (Q:Post):Prop:=
 ∃ F4 H4 log,runD x.E false x.N (sem x.E x.M) ops ors [⟨[],[]⟩] ((nx,v) :: F) H = some (F4,H4,log) ∧ Wp x rest F4 H4 Q
theorem xq {x:Cx} {ops ors:List Oper} {rest:Code} {nx:Nat} {v:AV} {F F4:Frm} {H H4:Heap} {Q:Post} {log:List LogE} (h:runD x.E false x.N (sem x.E x.M) ops ors [⟨[],[]⟩] ((nx,v) :: F) H = some (F4,H4,log)) (k:Wp x rest F4 H4 Q):Wq x ops ors rest nx v F H Q:=⟨_,_,_,h,k⟩
section
variable {E:Env} {M:List Fact} {m N:Nat} {g:FuncId} {cur:Nat} {keep:List Nat} {id:Nat} {ops:Array Oper} {it nx:Nat} {ors:List Oper} {rest:Code}
noncomputable def bodyM (E:Env) (M:List Fact) (m N:Nat) (g:FuncId) (cur:Nat) (lf:Nat) (b:Code):Frm → Heap → (AExit → Frm → Heap → Option R3) → Option R3:=fun F H k=>aevC E m N (E.keep g) (sem E M) lf cur b F H k
theorem wq_round (hnx:nxOf ops.toList = some (it,nx,ors)) (hN:Nat.blt nx N = true) {ks acc:List Int} {ib:Nat} {act:Option Int} {F F1:Frm} {H H1 H3:Heap} {v:AV} {Q:Post} {arm:Option (Option Int)}
 (hg:gcD m (E.keep g cur) F H = some (F1,H1)) (hit:getF F1 it = .ptr ib 0 0) (hob:HeapF H1 ib = some (.miter ks acc arm))
 (hv:nextM F1 (H1.set ib (some (.miter ks acc (some act)))) it = some (v,H3)) (hw:Wq (cx E M m N g cur) ops.toList ors rest nx v F1 H3 Q) :
 ∃ e F' H',Q e F' H' ∧ ∃ n0,∀ lf,n0 ≤ lf → roundM m it (E.keep g cur) ks acc (bodyM E M m N g cur lf (.seq (.region id ops false) rest)) act F H = some (e,F',H'):=by
 obtain ⟨F4,H4,log,h1,h2⟩:=hw
 obtain ⟨e,F',H',⟨n0,h3⟩,h4⟩:=wp_ev _ h2
 refine ⟨e,F',H',h4,n0,fun lf hl=>?_⟩
 unfold roundM
 rw [hg]
 have ha:armH ks acc act F1 H1 it = some (H1.set ib (some (.miter ks acc (some act)))):=by
  unfold armH
  rw [hit]
  simp only [hob,decide_true,Bool.and_self,cond_true]
 simp only [ha,bodyM]
 unfold aevC
 unfold aevC
 rw [hnx]
 simp only [hN,Bool.not_true,Bool.or_self,cond_false,hv]
 rw [runOps_runD]
 have h1':runD E false N (sem E M) ops.toList ors [⟨[],[]⟩] (setF F1 (some nx) v) H3 = some (F4,H4,log):=h1
 rw [h1']
 simp only [Bool.not_false,Bool.true_or,cond_true]
 exact h3 lf hl R3 _
theorem next_some {ks acc:List Int} {ib:Nat} {i:Int} {F1:Frm} {H1:Heap} {arm:Option (Option Int)} (hit:getF F1 it = .ptr ib 0 0) (hob:HeapF H1 ib = some (.miter ks acc arm)) :
 nextM F1 (H1.set ib (some (.miter ks acc (some (some i))))) it = some (.tuple [.bool true,.int .i64 i,.bool true],H1.set ib (some (.miter ks (acc ++ [i]) none))):=by
 unfold nextM
 rw [hit]
 simp only [HeapF_set,heapF_in hob,and_self,if_true,List.set_set]
theorem next_over {ks acc:List Int} {ib:Nat} {F1:Frm} {H1:Heap} {arm:Option (Option Int)} (hit:getF F1 it = .ptr ib 0 0) (hob:HeapF H1 ib = some (.miter ks acc arm)) :
 nextM F1 (H1.set ib (some (.miter ks acc (some none)))) it = some (.tuple [.bool false],H1.set ib (some (.miter ks acc none))):=by
 unfold nextM
 rw [hit]
 simp only [HeapF_set,heapF_in hob,and_self,if_true,List.set_set]
theorem all_bound {α:Type} {P:Nat → α → Prop}:∀ (L:List α),(∀ o ∈ L,∃ n0,∀ lf,n0 ≤ lf → P lf o) → ∃ n0,∀ lf,n0 ≤ lf → ∀ o ∈ L,P lf o
 | [],_=>⟨0,fun _ _ _ h=>by cases h⟩
 | a :: L,h=>by
  obtain ⟨n1,h1⟩:=h a (by simp)
  obtain ⟨n2,h2⟩:=all_bound L fun o ho=>h o (by simp [ho])
  refine ⟨max n1 n2,fun lf hl o ho=>?_⟩
  rcases List.mem_cons.1 ho with rfl|ho
  ·exact h1 lf (by omega)
  ·exact h2 lf (by omega) o ho
theorem xp_mlp {F:Frm} {H:Heap} {Q:Post} (hk:E.keep g cur = keep) (ks:List Int) (Fs:List Int → Frm) (Hs:List Int → Heap) (ib:Nat) (e0:AExit) (F0:Frm) (H0:Heap) (hks:ks.Nodup) (h0:gcD m keep F H = some (Fs [],Hs []))
 (hob:∀ V,V.Nodup → (∀ x ∈ V,x ∈ ks) → getF (Fs V) it = .ptr ib 0 0 ∧ ∃ arm,HeapF (Hs V) ib = some (.miter ks V arm))
 (hstep:∀ V i,V.Nodup → (∀ x ∈ V,x ∈ ks) → i ∈ ks → i ∉ V → Wq (cx E M m N g cur) ops.toList ors rest nx (.tuple [.bool true,.int .i64 i,.bool true]) (Fs V) ((Hs V).set ib (some (.miter ks (V ++ [i]) none))) (mlp m keep (Fs (V ++ [i])) (Hs (V ++ [i]))))
 (hend:∀ V,V.Perm ks → Wq (cx E M m N g cur) ops.toList ors rest nx (.tuple [.bool false]) (Fs V) ((Hs V).set ib (some (.miter ks V none))) (mle it e0 F0 H0))
 (hq:Q e0 F0 H0) (he:e0.isN = false:=by rfl) (hnx:nxOf ops.toList = some (it,nx,ors):=by rfl) (hN:Nat.blt nx N = true:=by rfl):Wp (cx E M m N g cur) (.loop (.seq (.region id ops false) rest)) F H Q:=by
 subst hk
 have key:∀ (o acc:List Int) (F':Frm) (H':Heap),(acc ++ o).Perm ks → gcD m (E.keep g cur) F' H' = some (Fs acc,Hs acc) →
  ∃ n0,∀ lf,n0 ≤ lf → orderM m it (E.keep g cur) ks (bodyM E M m N g cur lf (.seq (.region id ops false) rest)) acc o F' H' = some (e0,F0,H0):=by
  intro o
  induction o with
  | nil=>
   intro acc F' H' hp hg
   rw [List.append_nil] at hp
   obtain ⟨hit,arm,hh⟩:=hob acc (hp.nodup_iff.2 hks) (fun x hx=>hp.mem_iff.1 hx)
   obtain ⟨e,F2,H2,⟨h1,h2,h3⟩,n0,h4⟩:=wq_round (id:=id) (act:=none) hnx hN hg hit hh (next_over hit hh) (hend acc hp)
   refine ⟨n0,fun lf hl=>?_⟩
   unfold orderM
   rw [h4 lf hl]
   subst h1 h2 h3
   cases e with
   | normal=>cases he
   | exit i=>rfl
   | ret=>rfl
  | cons i o ih=>
   intro acc F' H' hp hg
   have hnd:=hp.nodup_iff.2 hks
   rw [List.nodup_append] at hnd
   have hsub:∀ x ∈ acc,x ∈ ks:=fun x hx=>hp.mem_iff.1 (by simp [hx])
   obtain ⟨hit,arm,hh⟩:=hob acc hnd.1 hsub
   obtain ⟨e,F2,H2,h1,n0,h4⟩:=wq_round (id:=id) (act:=some i) hnx hN hg hit hh (next_some hit hh) (hstep acc i hnd.1 hsub (hp.mem_iff.1 (by simp)) (fun h=>hnd.2.2 i h i (by simp) rfl))
   cases e with
   | exit id=>exact h1.elim
   | ret=>exact h1.elim
   | normal=>
    obtain ⟨n1,h5⟩:=ih (acc ++ [i]) F2 H2 (by simpa using hp) h1
    refine ⟨max n0 n1,fun lf hl=>?_⟩
    unfold orderM
    rw [h4 lf (by omega)]
    exact h5 lf (by omega)
 obtain ⟨n0,hall⟩:=all_bound (permsZ ks) (P:=fun lf o=>orderM m it (E.keep g cur) ks (bodyM E M m N g cur lf (.seq (.region id ops false) rest)) [] o F H = some (e0,F0,H0)) (fun o ho=>key o [] F H (permsZ_perm ho) h0)
 refine ⟨e0,F0,H0,⟨n0,fun lf hl R k=>?_⟩,hq⟩
 have hnl:nxLoop (.seq (.region id ops false) rest) = some it:=by
  show (nxOf ops.toList).map (·.1) = some it
  rw [hnx];rfl
 have hall:=hall lf hl
 show aevC E m N (E.keep g) (sem E M) lf cur (.loop (.seq (.region id ops false) rest)) F H k = _
 unfold aevC
 rw [hnl]
 show mloop m it (E.keep g cur) (bodyM E M m N g cur lf (.seq (.region id ops false) rest)) F H k = _
 unfold mloop
 have hso:setOf m it (E.keep g cur) F H = some ks:=by
  obtain ⟨hit,arm,hh⟩:=hob [] List.nodup_nil (by simp)
  unfold setOf
  rw [h0]
  simp only [hit,hh]
 rw [hso]
 simp only
 cases hL:(permsZ ks).map fun o=>orderM m it (E.keep g cur) ks (bodyM E M m N g cur lf (.seq (.region id ops false) rest)) [] o F H with
 | nil=>
  have:=List.mem_map_of_mem (f:=fun o=>orderM m it (E.keep g cur) ks (bodyM E M m N g cur lf (.seq (.region id ops false) rest)) [] o F H) (permsZ_mem (List.Perm.refl ks))
  rw [hL] at this;cases this
 | cons x rs=>
  have hx:∀ y ∈ x :: rs,y = some (e0,F0,H0):=by
   intro y hy
   rw [← hL] at hy
   obtain ⟨o,ho,rfl⟩:=List.mem_map.1 hy
   exact hall o ho
  rw [hx x (by simp)]
  have:rs.all (fun x=>same3 x (e0,F0,H0)) = true:=by
   rw [List.all_eq_true]
   intro y hy
   rw [hx y (by simp [hy])];exact same3_self _
  simp only [this,cond_true]
end
end Go.Ax
/- AxSetS: sets of numbers, as rewrite rules. -/
namespace Go.Ax
section
variable {E:Env} {h:FHeap} {t:TypeId} {draw:Bool} {call:CallF} {F:Frm} {H:Heap}
@[go_sem] theorem newMap_eq:newMap E t = bif usetT E t then .uset [] else .map [] [] [] 0:=by rfl
@[go_sem] theorem isMapT_map (k e:TypeId):isMapT (some (.map k e)) = true:=by rfl
/-! lookup -/
def lookU (E:Env) (t:TypeId) (ks:List Int) (o:Bool):AV → Option AV
 | .int .i64 i=>bif usetT E t then some (bif o then .tuple [.bool (ks.contains i),.bool (ks.contains i)] else .bool (ks.contains i)) else none
 | _=>none
@[go_sem] theorem lookU_i (ks:List Int) (o:Bool) (i:Int):lookU E t ks o (.int .i64 i) = bif usetT E t then some (bif o then .tuple [.bool (ks.contains i),.bool (ks.contains i)] else .bool (ks.contains i)) else none:=by rfl
def lookM (E:Env) (h:FHeap) (t:TypeId) (b:Nat) (k:AV) (o:Bool):Option AObj → Option AV
 | some (.uset ks)=>lookU E t ks o k
 | _=>alookup E h t (.map b) k o
@[go_sem] theorem lookM_u (b:Nat) (k:AV) (o:Bool) (ks:List Int):lookM E h t b k o (some (.uset ks)) = lookU E t ks o k:=by rfl
theorem alookup_none {x k:AV} {o:Bool} (hm:amapOf h x = none):alookup E h t x k o = none:=by
 unfold alookup
 split
 ·rw [cond_eq_ite];split
  ·rw [hm]
  ·rfl
 ·rfl
@[go_sem] theorem look_mb (b:Nat) (k:AV) (o:Bool):oor (alookup E h t (.map b) k o) (alookS E h t (.map b) k o) = lookM E h t b k o (h b):=by
 cases hb:h b with
 | none=>
  have:alookS E h t (.map b) k o = none:=by simp only [alookS,usetOf,hb]
  rw [this];simp only [lookM];cases alookup E h t (.map b) k o<;>rfl
 | some ob=>
  cases ob with
  | uset ks=>
   rw [alookup_none (by simp only [amapOf,hb])]
   simp only [oor,alookS,usetOf,hb,lookM]
   unfold lookU
   cases k<;>first|rfl|(rename_i kk i;cases kk<;>rfl)
  | _=>
   have:alookS E h t (.map b) k o = none:=by simp only [alookS,usetOf,hb]
   rw [this];simp only [lookM];cases alookup E h t (.map b) k o<;>rfl
/-! update -/
def updU (E:Env) (t:TypeId) (b:Nat) (ks:List Int):AV → AV → Option Eff
 | .int .i64 i,.bool q=>bif usetT E t && q then some (.set b (.uset (bif ks.contains i then ks else insZ i ks))) else none
 | _,_=>none
@[go_sem] theorem updU_i (b:Nat) (ks:List Int) (i:Int) (q:Bool):updU E t b ks (.int .i64 i) (.bool q) = bif usetT E t && q then some (.set b (.uset (bif ks.contains i then ks else insZ i ks))) else none:=by rfl
def updM (E:Env) (h:FHeap) (t:TypeId) (b:Nat) (k v:AV):Option AObj → Option Eff
 | some (.uset ks)=>updU E t b ks k v
 | _=>amapUpdate E h t (.map b) k v
@[go_sem] theorem updM_u (b:Nat) (k v:AV) (ks:List Int):updM E h t b k v (some (.uset ks)) = updU E t b ks k v:=by rfl
theorem apairs_none {b:Nat} {k:AV} (hb:∀ ks vs bs cl,h b ≠ some (.map ks vs bs cl)):apairs E h t (.map b) k = none:=by
 unfold apairs
 split
 ·rename_i kt _ b' hu he
  cases he
  rw [cond_eq_ite];split
  ·split
   ·rename_i hh;exact absurd hh (hb _ _ _ _)
   ·rfl
  ·rfl
 ·rfl
@[go_sem] theorem upd_mb (b:Nat) (k v:AV):oor (amapUpdate E h t (.map b) k v) (aupdS E h t (.map b) k v) = updM E h t b k v (h b):=by
 have none_case:(∀ ks,h b ≠ some (.uset ks)) → aupdS E h t (.map b) k v = none:=by
  intro hn
  unfold aupdS
  split
  ·rename_i b' i q he
   cases he
   split
   ·rename_i ks hh;exact absurd hh (hn ks)
   ·rfl
  ·rfl
 cases hb:h b with
 | none=>rw [none_case (by rw [hb];simp)];simp only [updM];cases amapUpdate E h t (.map b) k v<;>rfl
 | some ob=>
  cases ob with
  | uset ks=>
   have:amapUpdate E h t (.map b) k v = none:=by
    unfold amapUpdate;rw [apairs_none (by rw [hb];simp)]
   rw [this]
   simp only [oor,updM]
   unfold updU aupdS
   cases k<;>first|rfl|(rename_i kk i;cases kk<;>first|rfl|(cases v<;>first|rfl|(simp only [hb])))
  | _=>rw [none_case (by rw [hb];simp)];simp only [updM];cases amapUpdate E h t (.map b) k v<;>rfl
/-! delete -/
@[go_sem] theorem st_delete (x y:Operand) (t u:TypeId):stepOp E draw call F H (.call { callee:=.builtin .delete,args:=#[x,y],argTypes:=#[t,u] }) = obind (adelS E (HeapF H) t (opv E F x) (opv E F y)) fun e=>bif e.fits H.length then some (.tuple [],effH H e,⟨topRef (opv E F x) ++ topRef (opv E F y),e.keys H.length⟩) else none:=by
 refine (step_eff (v:=(adelS E (HeapF H) t (opv E F x) (opv E F y)).map (.tuple [],·)) rfl rfl rfl).trans ?_
 cases adelS E (HeapF H) t (opv E F x) (opv E F y)<;>simp [aneeds,obind]
def delM (E:Env) (t:TypeId) (b:Nat) (i:Int):Option AObj → Option Eff
 | some (.uset ks)=>bif usetT E t then some (.set b (.uset (ks.filter fun y=>!decide (y = i)))) else none
 | _=>none
@[go_sem] theorem delM_u (b:Nat) (i:Int) (ks:List Int):delM E t b i (some (.uset ks)) = bif usetT E t then some (.set b (.uset (ks.filter fun y=>!decide (y = i)))) else none:=by rfl
@[go_sem] theorem adel_mb (b:Nat) (i:Int):adelS E h t (.map b) (.int .i64 i) = delM E t b i (h b):=by
 unfold adelS delM
 cases hb:h b with
 | none=>simp only [hb]
 | some ob=>cases ob<;>simp only [hb]
/-! length -/
def lenM:Option AObj → Option AV
 | some (.map ks _ _ _)=>some (.int .i64 ks.length)
 | some (.uset ks)=>some (.int .i64 ks.length)
 | _=>none
@[go_sem] theorem lenM_u (ks:List Int):lenM (some (.uset ks)) = some (.int .i64 ks.length):=by rfl
@[go_sem] theorem alen_mb {b:Nat} (hs:isMapT (E.und t) = true):alen E h t (.map b) = lenM (h b):=by
 obtain ⟨x,y,hu⟩:=isMapT_iff hs
 simp only [alen,hu]
 cases h b with
 | none=>rfl
 | some ob=>cases ob<;>rfl
/-! ranging -/
@[go_sem] theorem range_is {n:Nat} {ks:List Int}:oor (arange E n t (.iset ks)) (arangeS E n t (.iset ks)) = bif isMapT (E.und t) then some (.ptr n 0 0,.new (.miter ks [] none)) else none:=by
 have:arange E n t (.iset ks) = none:=by unfold arange;split<;>first|rfl|(rename_i h;cases h)
 rw [this];rfl
@[go_sem] theorem st_entry (it:Operand):stepOp E draw call F H (.entry it) = obind (aentryS (HeapF H) (opv E F it)) fun v=>some (v,H,⟨topRef (opv E F it),[]⟩):=step_pure rfl rfl
def entM:Option AObj → Option AV
 | some (.miter _ vis _)=>(vis.getLast?).map fun i=>.tuple [.int .i64 i,.bool true]
 | _=>none
@[go_sem] theorem entM_it (ks vis:List Int) (i:Int) (arm:Option (Option Int)):entM (some (.miter ks (vis ++ [i]) arm)) = some (.tuple [.int .i64 i,.bool true]):=by
 simp [entM]
@[go_sem] theorem aentry_p (b:Nat):aentryS h (.ptr b 0 0) = entM (h b):=by
 unfold aentryS entM
 cases hb:h b with
 | none=>simp only [hb]
 | some ob=>
  cases ob
  case miter ks vis arm=>simp only [hb];cases vis.getLast?<;>rfl
  all_goals simp only [hb]
/-! frames and heaps -/
variable (π:Nat → Option Nat)
@[go_sem] theorem refsO_uset (ks:List Int):refsO (some (.uset ks)) = []:=by rfl
@[go_sem] theorem refsO_miter (ks vis:List Int) (arm:Option (Option Int)):refsO (some (.miter ks vis arm)) = []:=by rfl
@[go_sem] theorem renObj_uset (ks:List Int):renObj π (.uset ks) = .uset ks:=by rfl
@[go_sem] theorem renObj_miter (ks vis:List Int) (arm:Option (Option Int)):renObj π (.miter ks vis arm) = .miter ks vis arm:=by rfl
end
theorem frzD_uset {h:FHeap} {m n b:Nat} {ks:List Int} (hn:0 < n) (hb:h b = some (.uset ks)):frzD h m n (.map b) = some (.iset ks):=by
 obtain ⟨n,rfl⟩:∃ k,n = k + 1:=⟨n - 1,by omega⟩
 simp only [frzD,hb]
end Go.Ax
/- AxSts: a slice of sets that are made and filled: one block of rows, a block for each set. -/
namespace Go.Ax
def mpV (b:Nat):Option (List Int) → AV|none=>.nilmap|some _=>.map b
def rowsM (ids:Nat → Nat) (cs:List (Option (List Int))):List (List AV):=cs.mapIdx fun j o=>[mpV (ids j) o]
structure Sts (H:Heap) (b:Nat) (ids:Nat → Nat) (cs:List (Option (List Int))):Prop where
 top:HeapF H b = some (.row 1 (rowsM ids cs))
 sub:∀ (j:Nat) s,cs[j]? = some (some s) → HeapF H (ids j) = some (.uset s) ∧ ids j ≠ b
 inj:∀ (i j:Nat) s t,cs[i]? = some (some s) → cs[j]? = some (some t) → ids i = ids j → i = j
theorem rowsM_get {ids:Nat → Nat} {cs:List (Option (List Int))} {j:Nat} {o:Option (List Int)} (h:cs[j]? = some o):(rowsM ids cs)[j]? = some [mpV (ids j) o]:=by
 unfold rowsM;rw [List.getElem?_mapIdx,h];rfl
theorem rowsM_len (ids:Nat → Nat) (cs:List (Option (List Int))):(rowsM ids cs).length = cs.length:=by unfold rowsM;simp
theorem mpV_refs (b:Nat) (o:Option (List Int)):refs (mpV b o) = if o = none then [] else [b]:=by cases o<;>rfl
theorem rowsM_refs {ids:Nat → Nat} {cs:List (Option (List Int))} {c:Nat}:c ∈ (rowsM ids cs).flatMap refsL ↔ ∃ j s,cs[j]? = some (some s) ∧ c = ids j:=by
 unfold rowsM
 simp only [List.mem_flatMap]
 constructor
 ·rintro ⟨r,hr,hc⟩
  obtain ⟨j,hj⟩:=List.mem_iff_getElem?.1 hr
  rw [List.getElem?_mapIdx] at hj
  cases hf:cs[j]? with
  | none=>rw [hf] at hj;cases hj
  | some o=>
   rw [hf] at hj
   cases hj
   cases o with
   | none=>simp [refsL,mpV,refs] at hc
   | some s=>exact ⟨j,s,hf,by simpa [refsL,mpV,refs] using hc⟩
 ·rintro ⟨j,s,hf,rfl⟩
  refine ⟨[mpV (ids j) (some s)],List.mem_iff_getElem?.2 ⟨j,by rw [List.getElem?_mapIdx,hf];rfl⟩,?_⟩
  simp [refsL,mpV,refs]
theorem mpV_ren {π:Nat → Option Nat} {b c:Nat} {o:Option (List Int)} (h:∀ s,o = some s → π b = some c):ren π (mpV b o) = mpV c o:=by
 cases o with
 | none=>rfl
 | some s=>simp only [mpV,ren,h s rfl]
section
variable {m:Nat} {F:Frm} {H H1:Heap} {R:Nat → Prop} {π:Nat → Option Nat} {b:Nat} {ids:Nat → Nat} {cs:List (Option (List Int))}
theorem Sts.ren (hg:Gc m F H R π H1) (h:Sts H b ids cs) (hb:R b):∃ b' ids',π b = some b' ∧ Sts H1 b' ids' cs:=by
 obtain ⟨b',hb'⟩:=hg.here b hb
 have hsub:∀ (j:Nat) s,cs[j]? = some (some s) → π (ids j) = some ((π (ids j)).getD 0):=by
  intro j s hf
  have:R (ids j):=hg.closed b hb _ (by rw [h.top];exact rowsM_refs.2 ⟨j,s,hf,rfl⟩)
  obtain ⟨c,hc⟩:=hg.here _ this
  rw [hc];rfl
 refine ⟨b',fun j=>(π (ids j)).getD 0,hb',?_,?_,?_⟩
 ·rw [hg.heap b b' hb',h.top]
  simp only [Option.map_some,renObj]
  congr 2
  unfold rowsM
  apply List.ext_getElem?
  intro j
  simp only [List.getElem?_map,List.getElem?_mapIdx]
  cases hf:cs[j]? with
  | none=>rfl
  | some o=>simp only [Option.map_some,List.map_cons,List.map_nil,mpV_ren (π:=π) (b:=ids j) (c:=(π (ids j)).getD 0) (o:=o) fun s hs=>hsub j s (by rw [hf,hs])]
 ·intro j s hf
  have e:=hsub j s hf
  obtain ⟨h1,h2⟩:=h.sub j s hf
  refine ⟨?_,?_⟩
  ·rw [hg.heap _ _ e,h1];rfl
  ·intro he
   rw [he] at e
   exact h2 (hg.inj _ _ _ e hb')
 ·intro i j s t hf hg' e
  have e1:=hsub i s hf
  have e2:=hsub j t hg'
  rw [e] at e1
  exact h.inj i j s t hf hg' (hg.inj _ _ _ e1 e2)
theorem Sts.gc {keep:List Nat} (h:Sts H b ids cs) (hF:refsL ((keepF keep F).map (·.2)) = [b] ∨ refsL ((keepF keep F).map (·.2)) = [b,b]) (hn:cs.length < 900000) :
 ∃ π b' ids' H1,gcD 0 keep F H = some (renF π (keepF keep F),H1) ∧ π b = some b' ∧ Sts H1 b' ids' cs:=by
 obtain ⟨S,hS⟩:∃ S,S = b :: ((List.range cs.length).filter fun j=>(cs[j]?).any fun o=>o.isSome).map ids:=⟨_,rfl⟩
 have hleaf:∀ c ∈ ((List.range cs.length).filter fun j=>(cs[j]?).any fun o=>o.isSome).map ids,refsO (HeapF H c) = []:=by
  intro c hc
  obtain ⟨j,hj,rfl⟩:=List.mem_map.1 hc
  rw [List.mem_filter] at hj
  have hjl:j < cs.length:=by simpa using hj.1
  obtain ⟨o,hf⟩:∃ o,cs[j]? = some o:=⟨_,List.getElem?_eq_getElem hjl⟩
  have hne:=hj.2
  rw [hf] at hne
  cases o with
  | none=>simp at hne
  | some s=>rw [(h.sub j s hf).1];rfl
 have hrow:(refsO (HeapF H b)).length ≤ cs.length:=by
  rw [h.top]
  show ((rowsM ids cs).flatMap refsL).length ≤ _
  have:∀ (l:List (List AV)),(∀ r ∈ l,(refsL r).length ≤ 1) → (l.flatMap refsL).length ≤ l.length:=by
   intro l
   induction l with
   | nil=>intro _;simp
   | cons r l ih=>
    intro hl
    have h1:=hl r (by simp)
    have h2:=ih (fun r hr=>hl r (by simp [hr]))
    simp only [List.flatMap_cons,List.length_append,List.length_cons];omega
  have h2:=this (rowsM ids cs) (by
   intro r hr
   obtain ⟨j,hj⟩:=List.mem_iff_getElem?.1 hr
   unfold rowsM at hj
   rw [List.getElem?_mapIdx] at hj
   cases hf:cs[j]? with
   | none=>rw [hf] at hj;cases hj
   | some o=>rw [hf] at hj;cases hj;simp only [refsL,mpV_refs];split<;>simp)
  rw [rowsM_len] at h2;exact h2
 obtain ⟨R,π,H1,g1,g2,_⟩:=gc_gen (m:=0) (keep:=keep) (F:=F) (H:=H) (Nat.zero_le _) S (by intro c hc;rcases hF with hF|hF<;>rw [hF] at hc<;>simp at hc<;>subst hc<;>simp [hS]) (fun c hc=>absurd hc (Nat.not_lt_zero c)) (by
  intro c hc d hd
  simp only [hS,List.mem_cons] at hc
  rcases hc with rfl|hc
  ·rw [h.top] at hd
   obtain ⟨j,s,hf,rfl⟩:=rowsM_refs.1 hd
   simp only [hS,List.mem_cons]
   refine .inr (List.mem_map.2 ⟨j,List.mem_filter.2 ⟨by simpa using (List.getElem?_eq_some_iff.1 hf).1,?_⟩,rfl⟩)
   rw [hf];rfl
  ·rw [hleaf c hc] at hd;simp at hd) (by
  have hl:(refsL ((keepF keep F).map (·.2))).length ≤ 2:=by rcases hF with hF|hF<;>rw [hF]<;>simp
  have hsum:=sum_zero _ hleaf
  simp only [hS,List.map_cons,List.sum_cons,hsum,List.take_zero,List.flatMap_nil,List.length_nil]
  omega)
 obtain ⟨b',ids',e1,e2⟩:=h.ren g2 (g2.refs b (by rcases hF with hF|hF<;>rw [hF]<;>simp))
 exact ⟨π,b',ids',H1,g1,e1,e2⟩
theorem Sts.new (h:Sts H b ids cs) {j:Nat} {s:List Int} {L:Heap} {i:Nat} (hj:j < cs.length) (hi:HeapF L i = some (.uset s)) :
 Sts ((H.set b (some (.row 1 ((rowsM ids cs).set j [.map (H.length + i)])))) ++ L) b (fun k=>if k = j then H.length + i else ids k) (cs.set j (some s)):=by
 have hbl:=heapF_lt h.top
 refine ⟨?_,?_,?_⟩
 ·rw [heapF_loS hbl,if_pos rfl]
  congr 2
  apply List.ext_getElem?
  intro k
  unfold rowsM
  rw [List.getElem?_set,List.length_mapIdx]
  by_cases hkj:j = k
  ·subst hkj
   simp only [if_true,hj]
   rw [List.getElem?_mapIdx,List.getElem?_set]
   simp only [if_true,hj,Option.map_some,mpV]
  ·simp only [if_neg hkj]
   rw [List.getElem?_mapIdx,List.getElem?_mapIdx,List.getElem?_set,if_neg hkj]
   simp only [if_neg (Ne.symm hkj)]
 ·intro k t hk
  rw [List.getElem?_set] at hk
  by_cases hkj:j = k
  ·subst hkj
   simp only [if_true,hj,Option.some.injEq] at hk
   subst hk
   simp only [if_true]
   exact ⟨by rw [heapF_hiS];exact hi,by omega⟩
  ·rw [if_neg hkj] at hk
   simp only [if_neg (Ne.symm hkj)]
   obtain ⟨g1,g2⟩:=h.sub k t hk
   exact ⟨by rw [heapF_loS (heapF_lt g1),if_neg (Ne.symm g2)];exact g1,g2⟩
 ·intro k k' t t' hk hk' e
  rw [List.getElem?_set] at hk hk'
  by_cases hkj:j = k<;>by_cases hkj':j = k'
  ·omega
  ·subst hkj
   simp only [if_neg hkj'] at hk'
   simp only [if_true,if_neg (Ne.symm hkj')] at e
   have:=heapF_lt (h.sub k' t' hk').1
   omega
  ·subst hkj'
   simp only [if_neg hkj] at hk
   simp only [if_true,if_neg (Ne.symm hkj)] at e
   have:=heapF_lt (h.sub k t hk).1
   omega
  ·simp only [if_neg hkj] at hk
   simp only [if_neg hkj'] at hk'
   simp only [if_neg (Ne.symm hkj),if_neg (Ne.symm hkj')] at e
   exact h.inj k k' t t' hk hk' e
theorem Sts.new0 (h:Sts H b ids cs) {j:Nat} {s:List Int} {L:Heap} (hj:j < cs.length) :
 Sts ((H.set b (some (.row 1 ((rowsM ids cs).set j [.map H.length])))) ++ (some (.uset s) :: L)) b (fun k=>if k = j then H.length else ids k) (cs.set j (some s)):=h.new (i:=0) hj rfl
theorem Sts.put (h:Sts H b ids cs) {j:Nat} {s t:List Int} (hj:cs[j]? = some (some s)):Sts (H.set (ids j) (some (.uset t))) b ids (cs.set j (some t)):=by
 have hjl:j < cs.length:=(List.getElem?_eq_some_iff.1 hj).1
 obtain ⟨g1,g2⟩:=h.sub j s hj
 have hil:=heapF_lt g1
 refine ⟨?_,?_,?_⟩
 ·rw [heapF_set_ne g2,h.top]
  congr 2
  apply List.ext_getElem?
  intro k
  unfold rowsM
  rw [List.getElem?_mapIdx,List.getElem?_mapIdx,List.getElem?_set]
  by_cases hkj:j = k
  ·subst hkj
   rw [hj];simp only [if_true,hjl,Option.map_some,mpV]
  ·rw [if_neg hkj]
 ·intro k t' hk
  rw [List.getElem?_set] at hk
  by_cases hkj:j = k
  ·subst hkj
   simp only [if_true,hjl,Option.some.injEq] at hk
   subst hk
   exact ⟨heapF_set_eq hil,g2⟩
  ·rw [if_neg hkj] at hk
   obtain ⟨k1,k2⟩:=h.sub k t' hk
   refine ⟨?_,k2⟩
   rw [heapF_set_ne,k1]
   intro e
   exact hkj (h.inj j k s t' hj hk e)
 ·intro k k' a a' hk hk' e
  rw [List.getElem?_set] at hk hk'
  have h1:∃ a,cs[k]? = some (some a):=by
   by_cases hkj:j = k
   ·subst hkj;exact ⟨_,hj⟩
   ·rw [if_neg hkj] at hk;exact ⟨_,hk⟩
  have h2:∃ a,cs[k']? = some (some a):=by
   by_cases hkj:j = k'
   ·subst hkj;exact ⟨_,hj⟩
   ·rw [if_neg hkj] at hk';exact ⟨_,hk'⟩
  obtain ⟨a1,e1⟩:=h1
  obtain ⟨a2,e2⟩:=h2
  exact h.inj k k' a1 a2 e1 e2 e
theorem Sts.frz {ss:List (List Int)} (h:Sts H b ids (ss.map some)) (c:Option Nat):frzV 0 true (frzD (HeapF H) 0 12) (.slice b 0 ss.length c) = some (.islice (ss.map fun s=>[.iset s]) c):=by
 have key:∀ (rows:List (List AV)) (out:List (List AV)),rows.length = out.length → (∀ (j:Nat) r o,rows[j]? = some r → out[j]? = some o → frzL 0 false (frzD (HeapF H) 0 11) r = some o) → frzR 0 (frzD (HeapF H) 0 11) rows = some out:=by
  intro rows
  induction rows with
  | nil=>intro out hl _;cases out with|nil=>rfl|cons=>simp at hl
  | cons r rows ih=>
   intro out hl hh
   cases out with
   | nil=>simp at hl
   | cons o out=>
    rw [frzR_cons,hh 0 r o rfl rfl]
    simp only [obind]
    rw [ih out (by simpa using hl) (fun j r o hr ho=>hh (j + 1) r o (by simpa using hr) (by simpa using ho))]
 have hlen:(rowsM ids (ss.map some)).length = ss.length:=by rw [rowsM_len,List.length_map]
 rw [frz_slice,decide_eq_false (Nat.not_lt_zero b),cond_false,frzD_slice (eq_true (by omega:0 < 12)),h.top]
 simp only [rowO,obind,hlen,List.drop_zero,Nat.zero_add]
 rw [decide_eq_true (Nat.le_refl _),cond_true,← hlen,List.take_length]
 rw [key (rowsM ids (ss.map some)) (ss.map fun s=>[.iset s]) (by rw [hlen,List.length_map])]
 intro j r o hr ho
 rw [List.getElem?_map] at ho
 cases hf:ss[j]? with
 | none=>rw [hf] at ho;cases ho
 | some s=>
  rw [hf] at ho
  have hc:(ss.map some)[j]? = some (some s):=by rw [List.getElem?_map,hf];rfl
  rw [rowsM_get hc] at hr
  cases ho;cases hr
  rw [frzL_cons,frzL_nil]
  obtain ⟨g1,_⟩:=h.sub j s hc
  simp only [mpV]
  rw [frz_map,decide_eq_false (Nat.not_lt_zero _),cond_false,frzD_uset (by omega) g1]
  rfl
theorem sts_head {keep:List Nat} {P:Frm → Heap → Prop} (h:Sts H b ids cs) (hF:refsL ((keepF keep F).map (·.2)) = [b] ∨ refsL ((keepF keep F).map (·.2)) = [b,b]) (hn:cs.length < 900000)
 (hP:∀ π b' ids' H1,π b = some b' → Sts H1 b' ids' cs → P (renF π (keepF keep F)) H1):∃ F1 H1,gcD 0 keep F H = some (F1,H1) ∧ P F1 H1:=by
 obtain ⟨π,b',ids',H1,g1,g2,g3⟩:=h.gc hF hn
 exact ⟨_,H1,g1,hP π b' ids' H1 g2 g3⟩
theorem sts_init (H:Heap) (n:Nat) (b:Nat) (h:HeapF H b = some (.row 1 (List.replicate n [.nilmap]))):Sts H b (fun _=>0) (List.replicate n none):=by
 have hno:∀ (j:Nat) s,(List.replicate n (none:Option (List Int)))[j]? ≠ some (some s):=by
  intro j s hf
  rw [List.getElem?_replicate] at hf
  split at hf<;>cases hf
 refine ⟨?_,fun j s hf=>absurd hf (hno j s),fun i j s t hf _=>absurd hf (hno i s)⟩
 rw [h]
 congr 2
 apply List.ext_getElem?
 intro j
 unfold rowsM
 rw [List.getElem?_mapIdx,List.getElem?_replicate,List.getElem?_replicate]
 split<;>rfl
end
end Go.Ax
/- AxTwc: a slice of rows that grows, and the row that is to come next: a block of rows, a block for each row that is not empty. -/
namespace Go.Ax
def cpN:Nat → Option Nat:=fun _=>none
structure Twc (H:Heap) (b:Nat) (ids:Nat → Nat) (fo:List (List (List AV))) (cur:List (List AV)):Prop where
 top:fo ≠ [] → HeapF H b = some (.row 1 (rows2 ids cpN fo))
 sub:∀ (j:Nat) (f:List (List AV)),(fo ++ [cur])[j]? = some f → f ≠ [] → HeapF H (ids j) = some (.row 1 f) ∧ (fo ≠ [] → ids j ≠ b)
 inj:∀ (i j:Nat) (f g:List (List AV)),(fo ++ [cur])[i]? = some f → (fo ++ [cur])[j]? = some g → f ≠ [] → g ≠ [] → ids i = ids j → i = j
 flat:∀ f ∈ fo ++ [cur],FlatR f
def outV (b:Nat) (fo:List (List (List AV))):AV:=match fo with|[]=>.nilslice|_ :: r=>.slice b 0 (r.length + 1) none
theorem outV_refs (b:Nat) (fo:List (List (List AV))):refs (outV b fo) = if fo = [] then [] else [b]:=by cases fo<;>rfl
theorem outV_nil (b:Nat):outV b [] = .nilslice:=by rfl
theorem outV_ne (b:Nat) {fo:List (List (List AV))} (h:fo ≠ []):outV b fo = .slice b 0 fo.length none:=by cases fo with|nil=>exact absurd rfl h|cons=>rfl
theorem grV_refs (b:Nat) (f:List (List AV)):refs (grV b f) = if f = [] then [] else [b]:=by cases f<;>rfl
theorem outV_ren {π:Nat → Option Nat} {b c:Nat} {fo:List (List (List AV))} (h:fo ≠ [] → π b = some c):ren π (outV b fo) = outV c fo:=by
 cases fo with
 | nil=>rfl
 | cons a r=>simp only [outV,ren,h (by simp)]
theorem grV_ren {π:Nat → Option Nat} {b c:Nat} {f:List (List AV)} (h:f ≠ [] → π b = some c):ren π (grV b f) = grV c f:=by
 cases f with
 | nil=>rfl
 | cons a r=>simp only [grV,ren,h (by simp)]
section
variable {H H1:Heap} {b:Nat} {ids:Nat → Nat} {fo:List (List (List AV))} {cur:List (List AV)}
theorem Twc.init (H:Heap):Twc H 0 (fun _=>0) [] []:=by
 have hno:∀ (j:Nat) (f:List (List AV)),([] ++ [([]:List (List AV))])[j]? = some f → f = []:=by
  intro j f hf
  cases j with
  | zero=>simpa using hf.symm
  | succ j=>simp at hf
 refine ⟨fun h=>absurd rfl h,fun j f hf hne=>absurd (hno j f hf) hne,fun i j f g hf _ hne=>absurd (hno i f hf) hne,fun f hf=>?_⟩
 simp at hf;subst hf;exact FlatR.nil
theorem Twc.curAt (h:Twc H b ids fo cur) (hc:cur ≠ []):HeapF H (ids fo.length) = some (.row 1 cur) ∧ (fo ≠ [] → ids fo.length ≠ b):=h.sub fo.length cur (by simp) hc
theorem Twc.fl (h:Twc H b ids fo cur):FlatR cur:=h.flat cur (by simp)
def Twc.blocks (b:Nat) (ids:Nat → Nat) (fo:List (List (List AV))) (cur:List (List AV)):List Nat:=
 (if fo = [] then [] else [b]) ++ ((List.range (fo.length + 1)).filter fun j=>((fo ++ [cur])[j]?).any fun f=>!f.isEmpty).map ids
theorem Twc.head {keep:List Nat} {F:Frm} {P:Frm → Heap → Prop} (h:Twc H b ids fo cur) (hF:refsL ((keepF keep F).map (·.2)) = refs (outV b fo) ++ refs (grV (ids fo.length) cur)) (hn:fo.length < 900000)
 (hP:∀ π b' ids' H1,(fo ≠ [] → π b = some b') → (cur ≠ [] → π (ids fo.length) = some (ids' fo.length)) → Twc H1 b' ids' fo cur → P (renF π (keepF keep F)) H1):∃ F1 H1,gcD 0 keep F H = some (F1,H1) ∧ P F1 H1:=by
 have hleaf:∀ c ∈ ((List.range (fo.length + 1)).filter fun j=>((fo ++ [cur])[j]?).any fun f=>!f.isEmpty).map ids,refsO (HeapF H c) = []:=by
  intro c hc
  obtain ⟨j,hj,rfl⟩:=List.mem_map.1 hc
  rw [List.mem_filter] at hj
  obtain ⟨f,hf⟩:∃ f,(fo ++ [cur])[j]? = some f:=⟨_,List.getElem?_eq_getElem (by simpa using hj.1)⟩
  have hne:=hj.2
  rw [hf] at hne
  rw [(h.sub j f hf (fun e=>by rw [e] at hne;simp at hne)).1]
  exact refsO_flat (h.flat f (List.mem_of_getElem? hf))
 have hmem:∀ (j:Nat) (f:List (List AV)),(fo ++ [cur])[j]? = some f → f ≠ [] → ids j ∈ ((List.range (fo.length + 1)).filter fun j=>((fo ++ [cur])[j]?).any fun f=>!f.isEmpty).map ids:=by
  intro j f hf hne
  refine List.mem_map.2 ⟨j,List.mem_filter.2 ⟨?_,?_⟩,rfl⟩
  ·have:=(List.getElem?_eq_some_iff.1 hf).1;simpa using this
  ·rw [hf];cases f with|nil=>exact absurd rfl hne|cons=>rfl
 have hsub:∀ (j:Nat) (f:List (List AV)),fo[j]? = some f → (fo ++ [cur])[j]? = some f:=fun j f hf=>by
  rw [List.getElem?_append_left (List.getElem?_eq_some_iff.1 hf).1];exact hf
 have hrow:fo ≠ [] → (refsO (HeapF H b)).length ≤ fo.length:=by
  intro hfo
  rw [h.top hfo]
  show ((rows2 ids cpN fo).flatMap refsL).length ≤ _
  have:∀ (l:List (List AV)),(∀ r ∈ l,(refsL r).length ≤ 1) → (l.flatMap refsL).length ≤ l.length:=by
   intro l
   induction l with
   | nil=>intro _;simp
   | cons r l ih=>
    intro hl
    have h1:=hl r (by simp)
    have h2:=ih (fun r hr=>hl r (by simp [hr]))
    simp only [List.flatMap_cons,List.length_append,List.length_cons];omega
  have h2:=this (rows2 ids cpN fo) (by
   intro r hr
   obtain ⟨j,hj⟩:=List.mem_iff_getElem?.1 hr
   unfold rows2 at hj
   rw [List.getElem?_mapIdx] at hj
   cases hf:fo[j]? with
   | none=>rw [hf] at hj;cases hj
   | some f=>rw [hf] at hj;cases hj;simp only [refsL,slV_refs];split<;>simp)
  rw [rows2_len] at h2;exact h2
 have hin:∀ c ∈ refs (outV b fo) ++ refs (grV (ids fo.length) cur),c ∈ Twc.blocks b ids fo cur:=by
  intro c hc
  unfold Twc.blocks
  rw [outV_refs,grV_refs] at hc
  rw [List.mem_append] at hc ⊢
  rcases hc with hc|hc
  ·exact .inl hc
  ·by_cases hcur:cur = []
   ·rw [if_pos hcur] at hc;simp at hc
   ·rw [if_neg hcur,List.mem_singleton] at hc
    subst hc
    exact .inr (hmem _ cur (by simp) hcur)
 obtain ⟨R,π,H1,g1,g2,_⟩:=gc_gen (m:=0) (keep:=keep) (F:=F) (H:=H) (Nat.zero_le _) (Twc.blocks b ids fo cur) (by rw [hF];exact hin) (fun c hc=>absurd hc (Nat.not_lt_zero c)) (by
  intro c hc d hd
  unfold Twc.blocks at hc ⊢
  rw [List.mem_append] at hc ⊢
  rcases hc with hc|hc
  ·by_cases hfo:fo = []
   ·rw [if_pos hfo] at hc;simp at hc
   ·rw [if_neg hfo,List.mem_singleton] at hc
    subst hc
    rw [h.top hfo] at hd
    obtain ⟨j,f,hf,hne,rfl⟩:=rows2_refs.1 hd
    exact .inr (hmem j f (hsub j f hf) hne)
  ·rw [hleaf c hc] at hd;simp at hd) (by
  have hl:(refsL ((keepF keep F).map (·.2))).length ≤ 2:=by
   rw [hF,outV_refs,grV_refs]
   split<;>split<;>simp
  have hz:=sum_zero _ hleaf
  unfold Twc.blocks
  rw [List.map_append,List.sum_append,hz]
  simp only [List.take_zero,List.flatMap_nil,List.length_nil]
  by_cases hfo:fo = []
  ·rw [if_pos hfo];simp;omega
  ·rw [if_neg hfo]
   have:=hrow hfo
   simp;omega)
 have hRb:fo ≠ [] → R b:=fun hfo=>g2.refs b (by rw [hF,outV_refs,if_neg hfo];simp)
 have hRs:∀ (j:Nat) (f:List (List AV)),(fo ++ [cur])[j]? = some f → f ≠ [] → R (ids j):=by
  intro j f hf hne
  by_cases hj:j < fo.length
  ·have hfo:fo ≠ []:=fun e=>by rw [e] at hj;simp at hj
   rw [List.getElem?_append_left hj] at hf
   exact g2.closed b (hRb hfo) _ (by rw [h.top hfo];exact rows2_refs.2 ⟨j,f,hf,hne,rfl⟩)
  ·have hjl:=(List.getElem?_eq_some_iff.1 hf).1
   simp only [List.length_append,List.length_singleton] at hjl
   obtain rfl:j = fo.length:=by omega
   rw [List.getElem?_append_right (Nat.le_refl _)] at hf
   simp only [Nat.sub_self,List.getElem?_cons_zero,Option.some.injEq] at hf
   subst hf
   exact g2.refs _ (by rw [hF,grV_refs,if_neg hne];simp)
 have hs:∀ (j:Nat) (f:List (List AV)),(fo ++ [cur])[j]? = some f → f ≠ [] → π (ids j) = some ((π (ids j)).getD 0):=by
  intro j f hf hne
  obtain ⟨c,hc⟩:=g2.here _ (hRs j f hf hne)
  rw [hc];rfl
 have hb':fo ≠ [] → π b = some ((π b).getD 0):=fun hfo=>by
  obtain ⟨c,hc⟩:=g2.here _ (hRb hfo)
  rw [hc];rfl
 refine ⟨_,H1,g1,hP π ((π b).getD 0) (fun j=>(π (ids j)).getD 0) H1 hb' (fun hcur=>hs fo.length cur (by simp) hcur) ⟨?_,?_,?_,h.flat⟩⟩
 ·intro hfo
  rw [g2.heap b _ (hb' hfo),h.top hfo]
  simp only [Option.map_some,renObj]
  congr 2
  unfold rows2
  apply List.ext_getElem?
  intro j
  simp only [List.getElem?_map,List.getElem?_mapIdx]
  cases hf:fo[j]? with
  | none=>rfl
  | some f=>simp only [Option.map_some,List.map_cons,List.map_nil,slV_ren (hs j f (hsub j f hf))]
 ·intro j f hf hne
  have e:=hs j f hf hne
  obtain ⟨h1,h2⟩:=h.sub j f hf hne
  refine ⟨?_,?_⟩
  ·rw [g2.heap _ _ e,h1]
   simp only [Option.map_some,renObj,renR_flat π (h.flat f (List.mem_of_getElem? hf))]
  ·intro hfo he
   have hb:=hb' hfo
   rw [he] at e
   exact h2 hfo (g2.inj _ _ _ e hb)
 ·intro i j f g hf hg' hne hne' e
  have e1:=hs i f hf hne
  have e2:=hs j g hg' hne'
  rw [e] at e1
  exact h.inj i j f g hf hg' hne hne' (g2.inj _ _ _ e1 e2)
theorem Twc.push (h:Twc H b ids fo cur) {x:List AV} {n:Nat} (hx:refsL x = []) (hn:H.length ≤ n) (h2:HeapF H1 n = some (.row 1 (cur ++ [x])))
 (h3:∀ c,c < H.length → (cur ≠ [] → c ≠ ids fo.length) → HeapF H1 c = HeapF H c):Twc H1 b (fun i=>if i = fo.length then n else ids i) fo (cur ++ [x]):=by
 have hat:∀ (j:Nat) (f:List (List AV)),(fo ++ [cur ++ [x]])[j]? = some f → (j = fo.length ∧ f = cur ++ [x]) ∨ (j ≠ fo.length ∧ fo[j]? = some f ∧ (fo ++ [cur])[j]? = some f):=by
  intro j f hf
  by_cases hj:j < fo.length
  ·rw [List.getElem?_append_left hj] at hf
   exact .inr ⟨by omega,hf,by rw [List.getElem?_append_left hj];exact hf⟩
  ·have hjl:=(List.getElem?_eq_some_iff.1 hf).1
   simp only [List.length_append,List.length_singleton] at hjl
   obtain rfl:j = fo.length:=by omega
   rw [List.getElem?_append_right (Nat.le_refl _)] at hf
   simp only [Nat.sub_self,List.getElem?_cons_zero,Option.some.injEq] at hf
   exact .inl ⟨rfl,hf.symm⟩
 refine ⟨?_,?_,?_,?_⟩
 ·intro hfo
  have hb:=h.top hfo
  rw [h3 b (heapF_lt hb) (fun hc e=>(h.curAt hc).2 hfo e.symm),hb]
  congr 2
  unfold rows2
  apply List.ext_getElem?
  intro j
  rw [List.getElem?_mapIdx,List.getElem?_mapIdx]
  cases hf:fo[j]? with
  | none=>rfl
  | some f=>
   have:=(List.getElem?_eq_some_iff.1 hf).1
   simp only [Option.map_some,if_neg (show j ≠ fo.length by omega)]
 ·intro j f hf hne
  rcases hat j f hf with ⟨rfl,rfl⟩|⟨hj,h4,h5⟩
  ·simp only [if_true]
   exact ⟨h2,fun hfo=>by have:=heapF_lt (h.top hfo);omega⟩
  ·simp only [if_neg hj]
   obtain ⟨k1,k2⟩:=h.sub j f h5 hne
   refine ⟨?_,k2⟩
   rw [h3 _ (heapF_lt k1) (fun hc e=>hj (h.inj j fo.length f cur h5 (by simp) hne hc e)),k1]
 ·intro i j f g hf hg hne hne' e
  rcases hat i f hf with ⟨rfl,rfl⟩|⟨hi,h4,h5⟩<;>rcases hat j g hg with ⟨rfl,rfl⟩|⟨hj,h6,h7⟩
  ·rfl
  ·simp only [if_true,if_neg hj] at e
   have:=heapF_lt (h.sub j g h7 hne').1
   omega
  ·simp only [if_true,if_neg hi] at e
   have:=heapF_lt (h.sub i f h5 hne).1
   omega
  ·simp only [if_neg hi,if_neg hj] at e
   exact h.inj i j f g h5 h7 hne hne' e
 ·intro f hf
  rw [List.mem_append,List.mem_singleton] at hf
  rcases hf with hf|rfl
  ·exact h.flat f (by simp [hf])
  ·exact h.fl.append (FlatR.cons hx FlatR.nil)
theorem Twc.next (h:Twc H b ids fo cur) {n:Nat} (hn:H.length ≤ n) (h2:HeapF H1 n = some (.row 1 (rows2 ids cpN fo ++ [[slV (ids fo.length) none cur]])))
 (h3:∀ c,c < H.length → (fo ≠ [] → c ≠ b) → HeapF H1 c = HeapF H c):Twc H1 n ids (fo ++ [cur]) []:=by
 have hat:∀ (j:Nat) (f:List (List AV)),(fo ++ [cur] ++ [[]])[j]? = some f → f ≠ [] → (fo ++ [cur])[j]? = some f:=by
  intro j f hf hne
  by_cases hj:j < (fo ++ [cur]).length
  ·rw [List.getElem?_append_left hj] at hf;exact hf
  ·rw [List.getElem?_append_right (by omega)] at hf
   have:=List.mem_of_getElem? hf
   simp at this
   exact absurd this hne
 refine ⟨?_,?_,?_,?_⟩
 ·intro _
  rw [h2]
  congr 2
  unfold rows2
  rw [List.mapIdx_append]
  simp [cpN]
 ·intro j f hf hne
  obtain ⟨k1,k2⟩:=h.sub j f (hat j f hf hne) hne
  have hl:=heapF_lt k1
  exact ⟨by rw [h3 _ hl k2,k1],fun _=>by omega⟩
 ·intro i j f g hf hg hne hne' e
  exact h.inj i j f g (hat i f hf hne) (hat j g hg hne') hne hne' e
 ·intro f hf
  rw [List.mem_append,List.mem_singleton] at hf
  rcases hf with hf|rfl
  ·exact h.flat f hf
  ·exact FlatR.nil
theorem Twc.two (h:Twc H b ids fo []) (hfo:fo ≠ []):Two H b 1 ids cpN fo:=by
 have hsub:∀ (j:Nat) (f:List (List AV)),fo[j]? = some f → (fo ++ [[]])[j]? = some f:=fun j f hf=>by
  rw [List.getElem?_append_left (List.getElem?_eq_some_iff.1 hf).1];exact hf
 exact ⟨h.top hfo,fun j f hf hne=>by obtain ⟨k1,k2⟩:=h.sub j f (hsub j f hf) hne;exact ⟨k1,k2 hfo⟩,fun i j f g hf hg hne hne' e=>h.inj i j f g (hsub i f hf) (hsub j g hg) hne hne' e,fun f hf=>h.flat f (by simp [hf])⟩
end
theorem cells_grV (b:Nat) (f:List (List AV)):(grV b f).cells = [grV b f]:=by cases f<;>rfl
theorem storable_grV (b:Nat) (f:List (List AV)):(grV b f).storable = true:=by cases f<;>rfl
theorem junk_grV (b:Nat) (f:List (List AV)):(grV b f).isJunk = false:=by cases f<;>rfl
theorem topRef_grV (b:Nat) (f:List (List AV)):topRef (grV b f) = refs (grV b f):=by cases f<;>rfl
end Go.Ax
/- AxLog: the look at a drawn region's log, the order first. -/
namespace Go.Ax
def logRow2 (all:List Oper) (j:Nat) (y:LogE):Nat → List LogE → Bool
 | _,[]=>true
 | 0,_ :: _=>false
 | i + 1,x :: rest=>(ordered all i j || !(x.clash y)) && logRow2 all j y i rest
def logOk2 (all:List Oper):Nat → List LogE → Bool
 | _,[]=>true
 | 0,_ :: _=>false
 | j + 1,y :: rest=>logRow2 all j y j rest && logOk2 all j rest
theorem logRow2_eq (all:List Oper) (j:Nat) (y:LogE):∀ (i:Nat) (l:List LogE),logRow2 all j y i l = logOk.logRow all j y i l
 | _,[]=>by unfold logRow2 logOk.logRow;rfl
 | 0,_ :: _=>by unfold logRow2 logOk.logRow;rfl
 | i + 1,x :: rest=>by unfold logRow2 logOk.logRow;rw [logRow2_eq all j y i rest,Bool.or_comm]
theorem logOk2_eq (all:List Oper):∀ (i:Nat) (l:List LogE),logOk2 all i l = logOk all i l
 | _,[]=>by unfold logOk2 logOk;rfl
 | 0,_ :: _=>by unfold logOk2 logOk;rfl
 | j + 1,y :: rest=>by unfold logOk2 logOk;rw [logOk2_eq all j rest,logRow2_eq]
theorem xs2 {F F1:Frm} {H H1:Heap} {Q:Post} {E:Env} {M:List Fact} {m N:Nat} {g:FuncId} {cur:Nat} {id ops draw} {log:List LogE} (h:runD E draw N (sem E M) ops.toList ops.toList [] F H = some (F1,H1,log)) (hl:(!draw || logOk2 ops.toList log.length log) = true) (hq:Q .normal F1 H1):Wp (cx E M m N g cur) (.region id ops draw) F H Q:=
 xs h (by rw [← logOk2_eq];exact hl) hq
end Go.Ax
namespace Go.Ax
theorem xs_midS {F:Frm} {H:Heap} {Q:Post} {E:Env} {M:List Fact} {m N:Nat} {g:FuncId} {cur:Nat} {id ops} (R:Frm → Heap → Prop) (h:∃ F1 H1 log,runD E false N (sem E M) ops.toList ops.toList [] F H = some (F1,H1,log) ∧ R F1 H1) (hq:∀ F1 H1,R F1 H1 → Q .normal F1 H1):Wp (cx E M m N g cur) (.region id ops false) F H Q:=by
 obtain ⟨F1,H1,log,h1,h3⟩:=h
 exact xs h1 rfl (hq _ _ h3)
theorem mid_introS {draw:Bool} {E:Env} {M:List Fact} {N:Nat} {ops:List Oper} {F F1:Frm} {H H1:Heap} {log:List LogE} {R:Frm → Heap → Prop} (h1:runD E draw N (sem E M) ops ops [] F H = some (F1,H1,log)) (h3:R F1 H1):∃ F1 H1 log,runD E draw N (sem E M) ops ops [] F H = some (F1,H1,log) ∧ R F1 H1:=⟨_,_,_,h1,h3⟩
end Go.Ax
