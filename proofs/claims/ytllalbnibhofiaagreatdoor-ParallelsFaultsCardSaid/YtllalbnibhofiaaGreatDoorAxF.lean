/- AxTab: a table of rows of words in blocks, wherever they lie; heads of loops and calls over it. -/
import Derived.Test.YtllalbnibhofiaaGreatDoorAxE
set_option linter.unusedSimpArgs false
set_option linter.unusedVariables false
namespace Go.Ax
structure Mv (H:a04) (R:Nat → Prop) (π:Nat → Option Nat) (H1:a04):Prop where
 inj:∀ a b c,π a = some c → π b = some c → a = b
 closed:∀ b,R b → ∀ c ∈ a14 (a02 H b),R c
 here:∀ b,R b → ∃ c,π b = some c
 heap:∀ b c,R b → π b = some c → a02 H1 c = (a02 H b).map (a11 π)
theorem Gc.mv {m:Nat} {F:Frm} {H H1:a04} {R:Nat → Prop} {π:Nat → Option Nat} (g:Gc m F H R π H1):Mv H R π H1:=⟨g.inj,g.closed,g.here,fun b c _ h=>g.heap b c h⟩
section
variable {H H1:a04} {R:Nat → Prop} {π:Nat → Option Nat} {a b q:Nat} {ids:Nat → Nat} {w:Nat} {fo:List (List (BitVec 64))} {fr:Int}
end
/-! ### calls, wherever the blocks lie -/
end Go.Ax
/- AxTab2: a table that a call has been given: heads of loops and calls that write it. -/
namespace Go.Ax
section
variable {H H1:a04} {a b q:Nat} {ids:Nat → Nat} {w:Nat} {fo:List (List (BitVec 64))} {fr:Int}
mutual
theorem b8h {m:Nat} {π:Nat → Option Nat} (hπ:∀ c,c < m → π c = some c):∀ (v:AV),(∀ c ∈ refs v,c < m) → ren π v = v
 | .ptr b i o,h=>by simp only [ren,hπ b (h b (by simp [refs]))]
 | .slice b o l c,h=>by simp only [ren,hπ b (h b (by simp [refs]))]
 | .map b,h=>by simp only [ren,hπ b (h b (by simp [refs]))]
 | .func fn fs cs,h=>by
  simp only [refs,List.mem_append] at h
  simp only [ren,a5p hπ fs (fun c hc=>h c (.inl hc)),a5p hπ cs (fun c hc=>h c (.inr hc))]
 | .iface t x,h=>by simp only [refs] at h;simp only [ren,b8h hπ x h]
 | .agg cs,h=>by simp only [refs] at h;simp only [ren,a5p hπ cs h]
 | .tuple cs,h=>by simp only [refs] at h;simp only [ren,a5p hπ cs h]
 | .junk,_|.bool _,_|.int ..,_|.str _,_|.nilptr,_|.nilslice,_|.nilmap,_|.nilfunc,_|.nilifc,_|.iptr _,_|.islice ..,_|.imap ..,_=>rfl
theorem a5p {m:Nat} {π:Nat → Option Nat} (hπ:∀ c,c < m → π c = some c):∀ (l:List AV),(∀ c ∈ a0l l,c < m) → c08 π l = l
 | [],_=>rfl
 | v :: vs,h=>by
  simp only [a0l,List.mem_append] at h
  simp only [c08,b8h hπ v (fun c hc=>h c (.inl hc)),a5p hπ vs (fun c hc=>h c (.inr hc))]
end
theorem a8o {m:Nat} {π:Nat → Option Nat} (hπ:∀ c,c < m → π c = some c) (l:List AV) (h:∀ c ∈ a0l l,c < m):l.map (ren π) = l:=by rw [← a86];exact a5p hπ l h
theorem c3w {m:Nat} {π:Nat → Option Nat} (hπ:∀ c,c < m → π c = some c) (o:AObj) (h:∀ c ∈ a14 (some o),c < m):a11 π o = o:=by
 cases o with
 | row k rows=>
  simp only [a11]
  congr 1
  conv=>rhs;rw [← List.map_id rows]
  refine List.map_congr_left fun r hr=>?_
  refine a8o hπ r fun e he=>h e ?_
  simp only [a14,List.mem_flatMap];exact ⟨r,hr,he⟩
 | map ks vs bs cl=>
  simp only [a11]
  rw [a8o hπ ks (fun e he=>h e (by simp [a14,he])),a8o hπ vs (fun e he=>h e (by simp [a14,he]))]
 | siter s p=>rfl
theorem c77 (H:a04):∀ m,m ≤ H.length → ((H.take m).flatMap a14).length = ((List.range m).map fun c=>(a14 (a02 H c)).length).sum
 | 0,_=>rfl
 | m + 1,h=>by
  have ih:=c77 H m (by omega)
  rw [List.range_succ,List.map_append,List.sum_append,← ih,List.take_add_one,List.flatMap_append,List.length_append]
  congr 1
  rw [List.getElem?_eq_getElem (by omega)]
  simp [a02,List.getElem?_eq_getElem (show m < H.length by omega)]
theorem b5l {m:Nat} {π:Nat → Option Nat} (hπ:∀ c,c < m → π c = some c):∀ F:Frm,(∀ c ∈ a0l (F.map (·.2)),c < m) → c09 π F = F
 | [],_=>rfl
 | (s,v) :: F,h=>by
  simp only [List.map_cons,a0l,List.mem_append] at h
  have:=a8o hπ [v] (by simp only [a0l,List.append_nil];exact fun c hc=>h c (.inl hc))
  simp only [List.map_cons,List.map_nil,List.cons.injEq,and_true] at this
  rw [c6h,this,b5l hπ F (fun c hc=>h c (.inr hc))]
end
theorem b1i (a b:List AV):a0l (a ++ b) = a0l a ++ a0l b:=by
 induction a with
 | nil=>rfl
 | cons v a ih=>simp only [List.cons_append,a0l,ih,List.append_assoc]
end Go.Ax
/- AxLow: a loop's head over blocks that all stood before the call and refer to nothing. -/
namespace Go.Ax
theorem d2f {H H1:a04} (hl:H1.length = H.length) (h:∀ b,b < H.length → a02 H1 b = a02 H b):H1 = H:=by
 apply List.ext_getElem hl
 intro b h1 h2
 have:=h b h2
 unfold a02 at this
 rw [List.getElem?_eq_getElem h1,List.getElem?_eq_getElem h2] at this
 exact this
theorem e1c {keep:List Nat} {F F':Frm} {H:a04} (hk:a29 keep F = F') (hF:∀ b ∈ a0l (F'.map (·.2)),b < H.length) (hn:(a0l (F'.map (·.2))).length < 1000) (hH:∀ b,a14 (a02 H b) = []):gcD H.length keep F H = some (F',H):=by
 subst hk
 have hsum:((List.range H.length).map fun b=>(a14 (a02 H b)).length).sum = 0:=by
  have:((List.range H.length).map fun b=>(a14 (a02 H b)).length) = List.replicate H.length 0:=by
   rw [← List.length_range (n:=H.length),← List.map_const',List.length_range]
   exact List.map_congr_left fun b _=>by rw [hH];rfl
  rw [this];simp
 have hfl:(H.take H.length).flatMap a14 = []:=by
  rw [List.take_length,List.flatMap_eq_nil_iff]
  intro o ho
  obtain ⟨b,hb⟩:=List.mem_iff_getElem?.1 ho
  have:=hH b
  unfold a02 at this
  rw [hb] at this
  exact this
 obtain ⟨R,π,H1,h1,hg,hl⟩:=c84 (m:=H.length) (keep:=keep) (F:=F) (H:=H) (Nat.le_refl _) (List.range H.length) (fun b hb=>List.mem_range.2 (hF b hb)) (fun b _ c hc=>by rw [hH] at hc;simp at hc) (fun b _ c hc=>by rw [hH] at hc;simp at hc) (by rw [hsum,hfl];simp only [List.length_nil];omega)
 have hlen:H1.length = H.length:=by
  have:=hg.len [] (fun b hR hb=>by
   have:=hg.least (fun b=>b < H.length) hF (fun b _ c hc=>by rw [hH] at hc;simp at hc) (fun b _ c hc=>by rw [hH] at hc;simp at hc) b hR
   omega)
  simp only [List.length_nil,Nat.add_zero] at this
  omega
 rw [h1,b5l hg.low _ hF]
 have:H1 = H:=d2f hlen fun b hb=>by
  rw [hg.heap b b (hg.low b hb)]
  cases ho:a02 H b with
  | none=>rfl
  | some o=>
   have h2:=hH b
   rw [ho] at h2
   simp only [Option.map_some]
   rw [c3w hg.low o (fun c hc=>by rw [h2] at hc;simp at hc)]
 rw [this]
end Go.Ax
/- AxMelt: calls over flat arguments that return a pointer to a block of their f7v. -/
namespace Go.Ax
theorem c56 {E:Env} {call:CallF} {g:FuncId} {fs cs ar args:List AV} {H:a04} {k:Nat} {rows:List (List AV)} (hx:E.ext g = false) (hf:(E.fn g).isSome = true) (he:fs ++ ar ++ cs = args) (hargs:a0l args = []) (hr:call g args [] = some (.ptr 0 0 0,[some (.row k rows)])) (hfl:FlatR rows) :
 a0e E false call (.func (.func g) fs cs) ar H = some (.ptr H.length 0 0,H ++ [some (.row k rows)],[]):=by
 have hc:=a2s (call g) args H (σ:=[]) (by rw [hargs];rfl) rfl rfl (args':=args) (a46 _ hargs) (H0:=[]) rfl hr
 have hp:∀ (s:Nat) (H:a04),a18 [] H.length [some (AObj.row k rows)] s H = H:=by
  intro s H
  have:∀ (n s:Nat) (H:a04),a18 [] n [some (AObj.row k rows)] s H = H:=by
   intro n s H
   induction H generalizing s with
   | nil=>rfl
   | cons x H ih=>simp [a18,ih]
  exact this _ _ _
 rw [hp] at hc
 have h1:=fun π=>a0d π hfl
 have hb:ren (a2h [] H.length) (.ptr 0 0 0) = .ptr H.length 0 0:=rfl
 rw [hb] at hc
 simp only [List.length_nil,List.drop_zero,List.map_cons,List.map_nil,Option.map_some,a11,h1] at hc
 exact b0j hx hf he hc
@[go_sem] theorem d7d {v:AV} {H:a04}:a1v true 0 v H = d9c 0 v H:=by rfl
theorem c4l {m:Nat} (hm:(m = 0) = False) {v:AV} {H:a04}:a1v true m v H = some (v,H):=by
 cases m with
 | zero=>simp at hm
 | succ n=>rfl
attribute [go_sem] c4l
@[go_sem] theorem e3a {m b i o:Nat} {H:a04}:d9c m (.ptr b i o) H = bif decide (m ≤ b) then a0k (a9c (a02 H b)) fun kr=>a0k (c19 m (a6k (a3j (a02 H) b) m 12) kr.2) fun rows'=>some (.ptr m i o,(H.take m).map (Option.map (a11 (a20 m))) ++ [some (.row kr.1 rows')]) else none:=by
 have e:Nat.ble m b = decide (m ≤ b):=by rw [Bool.eq_iff_iff,Nat.ble_eq,decide_eq_true_eq]
 simp only [d9c,e]
 cases decide (m ≤ b) with
 | false=>rfl
 | true=>
  simp only [cond_true]
  cases h:a02 H b with
  | none=>rfl
  | some ob=>cases ob with
   | row k rows=>simp only [a9c,a0k];cases c19 m (a6k (a3j (a02 H) b) m 12) rows<;>rfl
   | map=>rfl
   | siter=>rfl
@[go_sem] theorem e3m {m:Nat} {d:AV → Option AV}:c19 m d [] = some []:=by rfl
@[go_sem] theorem e1f {m:Nat} {d:AV → Option AV} {r:List AV} {rs:List (List AV)}:c19 m d (r :: rs) = a0k (a5l m true d r) fun r'=>a0k (c19 m d rs) fun rs'=>some (r' :: rs'):=by
 simp only [c19]
 cases a5l m true d r with
 | none=>rfl
 | some r'=>cases c19 m d rs<;>rfl
@[go_sem] theorem d8t {h:FHeap} {b x:Nat}:a3j h b x = bif decide (x = b) then none else h x:=by
 unfold a3j
 by_cases hx:x = b
 ·subst hx;rw [show Nat.beq x x = true from Nat.beq_refl x,decide_eq_true rfl]
 ·rw [decide_eq_false hx]
  cases hq:Nat.beq x b with
  | false=>rfl
  | true=>exact absurd (Nat.eq_of_beq_eq_true hq) hx
theorem b5o {n:Nat} {H1:a04}:∀ (R:a04) (s:Nat),2 ≤ s → a18 [0,1] n H1 s R = R
 | [],s,_=>by simp [a18]
 | o :: R,s,hs=>by
  have e:([0,1]:List Nat).idxOf? s = none:=by
   rw [List.idxOf?_eq_none_iff];simp;omega
  simp only [a18,e,b5o R (s + 1) (by omega)]
theorem c39 {E:Env} {draw:Bool} {call:CallF} {g:FuncId} {fs cs ar args:List AV} {X Y:AObj} {R:a04} {v:AV} (hx:E.ext g = false) (hf:(E.fn g).isSome = true) (he:fs ++ ar ++ cs = args) (hargs:a0l args = [0]) (hX:a14 (some X) = [1]) (hY:a14 (some Y) = [])
 (ha:args.map (ren (a9o [0,1])) = args) (hX1:a11 (a9o [0,1]) X = X) (hX2:∀ n,a11 (a2h [0,1] n) X = X) (hYf:FlatO (some Y)) (hr:call g args [some X,some Y] = some (v,[some X,some Y])) (hv:refs v = []) :
 a0e E draw call (.func (.func g) fs cs) ar (some X :: some Y :: R) = some (v,some X :: some Y :: R,[0,1]):=by
 have hY1:∀ π,a11 π Y = Y:=fun π=>by have:=hYf π;simpa using this
 have hc:=a2s (call g) args (some X :: some Y :: R) (σ:=[0,1]) (by rw [hargs];simp +decide only [go_sem,hX,hY]) rfl (by simp) ha (H0:=[some X,some Y]) (by simp [a56,a02,hX1,hY1]) hr
 have hp:a18 [0,1] (some X :: some Y :: R).length [some X,some Y] 0 (some X :: some Y :: R) = some X :: some Y :: R:=by
  simp only [b8n,b5o R 2 (by omega)]
  simp +decide [c26,a02,hX2,hY1,List.idxOf?_cons]
 rw [hp,a1c _ v hv] at hc
 simp only [List.length_cons,List.length_nil,List.drop_succ_cons,List.drop_zero,List.map_nil,List.append_nil] at hc
 exact a7u hx hf he hc rfl
end Go.Ax
/- AxLog: the look at a drawn region's log, the order first. -/
namespace Go.Ax
def a7n (all:List Oper) (j:Nat) (y:LogE):Nat → List LogE → Bool
 | _,[]=>true
 | 0,_ :: _=>false
 | i + 1,x :: rest=>(a48 all i j || !(x.clash y)) && a7n all j y i rest
def b04 (all:List Oper):Nat → List LogE → Bool
 | _,[]=>true
 | 0,_ :: _=>false
 | j + 1,y :: rest=>a7n all j y j rest && b04 all j rest
theorem b5w (all:List Oper) (j:Nat) (y:LogE):∀ (i:Nat) (l:List LogE),a7n all j y i l = logOk.logRow all j y i l
 | _,[]=>by unfold a7n logOk.logRow;rfl
 | 0,_ :: _=>by unfold a7n logOk.logRow;rfl
 | i + 1,x :: rest=>by unfold a7n logOk.logRow;rw [b5w all j y i rest,Bool.or_comm]
theorem b8x (all:List Oper):∀ (i:Nat) (l:List LogE),b04 all i l = logOk all i l
 | _,[]=>by unfold b04 logOk;rfl
 | 0,_ :: _=>by unfold b04 logOk;rfl
 | j + 1,y :: rest=>by unfold b04 logOk;rw [b8x all j rest,b5w]
theorem f8c {F F1:Frm} {H H1:a04} {Q:b24} {E:Env} {M:List Fact} {m N:Nat} {g:FuncId} {cur:Nat} {id ops draw} {log:List LogE} (h:a7z E draw N (f7x E M) ops.toList ops.toList [] F H = some (F1,H1,log)) (hl:(!draw || b04 ops.toList log.length log) = true) (hq:Q .normal F1 H1):Wp (cx E M m N g cur) (.region id ops draw) F H Q:=
 xs h (by rw [← b8x];exact hl) hq
def c5m (all:List Oper) (j:Nat) (y:LogE):List LogE → Prop
 | []=>True
 | x :: rest=>(a48 all rest.length j = true ∨ x.clash y = false) ∧ c5m all j y rest
def d01 (all:List Oper):List LogE → Prop
 | []=>True
 | y :: rest=>c5m all rest.length y rest ∧ d01 all rest
theorem b2g {all:List Oper}:d01 all []:=by unfold d01;trivial
theorem b03 {all:List Oper} {y:LogE} {rest:List LogE} (h1:c5m all rest.length y rest) (h2:d01 all rest):d01 all (y :: rest):=by unfold d01;exact ⟨h1,h2⟩
theorem b29 {all:List Oper} {j:Nat} {y:LogE}:c5m all j y []:=by unfold c5m;trivial
theorem b28 {all:List Oper} {j:Nat} {y x:LogE} {rest:List LogE} (h1:a48 all rest.length j = true) (h2:c5m all j y rest):c5m all j y (x :: rest):=by unfold c5m;exact ⟨.inl h1,h2⟩
theorem b2a {all:List Oper} {j:Nat} {y x:LogE} {rest:List LogE} (h1:x.clash y = false) (h2:c5m all j y rest):c5m all j y (x :: rest):=by unfold c5m;exact ⟨.inr h1,h2⟩
theorem c6c {all:List Oper} {j:Nat} {y:LogE}:∀ {l:List LogE},c5m all j y l → a7n all j y l.length l = true
 | [],_=>by unfold a7n;rfl
 | x :: rest,h=>by
  rw [List.length_cons]
  unfold a7n
  rw [c6c h.2,Bool.and_true]
  rcases h.1 with h1|h1
  ·rw [h1,Bool.true_or]
  ·rw [h1];simp
theorem c79 {all:List Oper}:∀ {l:List LogE},d01 all l → b04 all l.length l = true
 | [],_=>by unfold b04;rfl
 | y :: rest,h=>by
  rw [List.length_cons]
  unfold b04
  rw [c79 h.2,Bool.and_true]
  exact c6c h.1
theorem f8d {F F1:Frm} {H H1:a04} {Q:b24} {E:Env} {M:List Fact} {m N:Nat} {g:FuncId} {cur:Nat} {id ops draw} {log:List LogE} (h:a7z E draw N (f7x E M) ops.toList ops.toList [] F H = some (F1,H1,log)) (hl:d01 ops.toList log) (hq:Q .normal F1 H1):Wp (cx E M m N g cur) (.region id ops draw) F H Q:=
 f8c h (by rw [c79 hl];simp) hq
theorem b0i {x y:LogE} (h1:∀ a ∈ x.keys,a ∉ y.needs) (h2:∀ a ∈ x.keys,a ∉ y.keys) (h3:∀ a ∈ x.needs,a ∉ y.keys):x.clash y = false:=by
 have hm:∀ l k:List Nat,(∀ a ∈ l,a ∉ k) → b39 l k = false:=by
  intro l k h
  unfold b39
  rw [List.any_eq_false]
  intro a ha
  have:=h a ha
  rw [Bool.not_eq_true]
  cases hc:a1d k a with
  | false=>rfl
  | true=>exact absurd (a2v.1 hc) this
 unfold LogE.clash
 rw [hm _ _ h1,hm _ _ h2,hm _ _ h3];rfl
theorem d3w {F:Frm} {H:a04} {Q:b24} {E:Env} {M:List Fact} {m N:Nat} {g:FuncId} {cur:Nat} {id ops draw} (R:Frm → a04 → Prop) (h:∃ F1 H1 log,a7z E draw N (f7x E M) ops.toList ops.toList [] F H = some (F1,H1,log) ∧ d01 ops.toList log ∧ R F1 H1) (hq:∀ F1 H1,R F1 H1 → Q .normal F1 H1):Wp (cx E M m N g cur) (.region id ops draw) F H Q:=by
 obtain ⟨F1,H1,log,h1,h2,h3⟩:=h
 exact f8d h1 h2 (hq _ _ h3)
theorem b02 {draw:Bool} {E:Env} {M:List Fact} {N:Nat} {ops:List Oper} {F F1:Frm} {H H1:a04} {log:List LogE} {R:Frm → a04 → Prop} (h1:a7z E draw N (f7x E M) ops ops [] F H = some (F1,H1,log)) (h2:d01 ops log) (h3:R F1 H1):∃ F1 H1 log,a7z E draw N (f7x E M) ops ops [] F H = some (F1,H1,log) ∧ d01 ops log ∧ R F1 H1:=⟨_,_,_,h1,h2,h3⟩
theorem d54 {F:Frm} {H:a04} {Q:b24} {E:Env} {M:List Fact} {m N:Nat} {g:FuncId} {cur:Nat} {id ops} (R:Frm → a04 → Prop) (h:∃ F1 H1 log,a7z E false N (f7x E M) ops.toList ops.toList [] F H = some (F1,H1,log) ∧ R F1 H1) (hq:∀ F1 H1,R F1 H1 → Q .normal F1 H1):Wp (cx E M m N g cur) (.region id ops false) F H Q:=by
 obtain ⟨F1,H1,log,h1,h3⟩:=h
 exact xs h1 rfl (hq _ _ h3)
theorem b5t {draw:Bool} {E:Env} {M:List Fact} {N:Nat} {ops:List Oper} {F F1:Frm} {H H1:a04} {log:List LogE} {R:Frm → a04 → Prop} (h1:a7z E draw N (f7x E M) ops ops [] F H = some (F1,H1,log)) (h3:R F1 H1):∃ F1 H1 log,a7z E draw N (f7x E M) ops ops [] F H = some (F1,H1,log) ∧ R F1 H1:=⟨_,_,_,h1,h3⟩
theorem a32 {H L:a04} {a b d:Nat} {x y:Option AObj} (hd:d < H.length):a02 ((H.set a x).set b y ++ L) d = if b = d then y else if a = d then x else a02 H d:=by
 rw [a1l (by rw [List.length_set];exact hd)]
 by_cases h1:b = d
 ·rw [if_pos h1,if_pos h1]
 ·rw [if_neg h1,if_neg h1]
  have:=a1l (H:=H) (L:=[]) (a:=a) (o:=x) hd
  rwa [List.append_nil] at this
theorem a8s {H L:a04} {a b:Nat} {x y:Option AObj} (i:Nat):a02 ((H.set a x).set b y ++ L) (H.length + i) = a02 L i:=by
 have:=a67 (H:=H.set a x) (L:=L) (a:=b) (o:=y) i
 rwa [List.length_set] at this
end Go.Ax
/- AxTab3: calls that are given a table (and a list in a block). -/
namespace Go.Ax
end Go.Ax
/- AxTab4: a table that is being c2e; heads of the loops that make and fill it. -/
namespace Go.Ax
section
variable {H H1:a04} {R:Nat → Prop} {π:Nat → Option Nat} {a b:Nat} {ids:Nat → Nat} {w n i:Nat}
end
theorem e19 {m:Nat} {keep:List Nat} {F:Frm} {H:a04} {P:Frm → a04 → Prop} (hm:m ≤ H.length) (S:List Nat) (h1:∀ b ∈ a0l ((a29 keep F).map (·.2)),b ∈ S) (h2:∀ b,b < m → a14 (a02 H b) = []) (h3:∀ b ∈ S,∀ c ∈ a14 (a02 H b),c ∈ S)
 (hc:(S.map fun b=>(a14 (a02 H b)).length).sum ≤ 100000) (hl:(a0l ((a29 keep F).map (·.2))).length ≤ 100)
 (hP:∀ (R:Nat → Prop) (π:Nat → Option Nat) (H1:a04),Gc m (a29 keep F) H R π H1 → m ≤ H1.length → P (c09 π (a29 keep F)) H1):∃ F1 H1,gcD m keep F H = some (F1,H1) ∧ P F1 H1:=by
 have hlow:((H.take m).flatMap a14).length = 0:=by
  rw [c77 H m hm]
  have:∀ l:List Nat,(∀ c ∈ l,a14 (a02 H c) = []) → (l.map fun c=>(a14 (a02 H c)).length).sum = 0:=b26
  exact this _ (fun c hc=>h2 c (by simpa using hc))
 obtain ⟨R,π,H1,g1,g2,g3⟩:=c84 (m:=m) (keep:=keep) (F:=F) (H:=H) hm S h1 (fun b hb c hc=>by rw [h2 b hb] at hc;simp at hc) h3 (by omega)
 exact ⟨_,H1,g1,hP R π H1 g2 g3⟩
end Go.Ax
/- AxTab5: a table's number in another cell; a table that is given back. -/
namespace Go.Ax
section
variable {H:a04} {a b q:Nat} {ids:Nat → Nat} {w:Nat} {fo:List (List (BitVec 64))} {fr:Int}
end
end Go.Ax
/- AxMapS: maps by keys that have an encoding; maps of growing slices of numbers. -/
namespace Go.Ax
def a76 {α:Type} [DecidableEq α] (x:α):List α → Option Nat
 | []=>none
 | y :: l=>if x = y then some 0 else (a76 x l).map (·+ 1)
theorem a3l {α:Type} [DecidableEq α] {x:α}:∀ {l:List α} {j:Nat},a76 x l = some j → l[j]? = some x
 | [],_,h=>by cases h
 | y :: l,j,h=>by
  unfold a76 at h
  split at h
  ·rename_i e;cases h;rw [e];rfl
  ·cases hp:a76 x l with
   | none=>rw [hp] at h;cases h
   | some k=>rw [hp] at h;cases h;rw [List.getElem?_cons_succ];exact a3l hp
structure KeyOk {α:Type} [DecidableEq α] (E:Env) (t kt et:TypeId) (enc:α → AV):Prop where
 und:E.und t = some (.map kt et)
 ty:c14 E kt = true
 val:∀ x,b93 E kt (enc x) = true
 eq:∀ x y,a4n E 6 kt (enc x) (enc y) = some (decide (x = y))
 same:∀ x,c1j (enc x) (enc x) = true
section
variable {α:Type} [DecidableEq α] {E:Env} {t kt et:TypeId} {enc:α → AV}
theorem KeyOk.find (ho:KeyOk E t kt et enc) (x:α):∀ (l:List α) (i:Nat),a22 (a4n E 6 kt) (enc x) (l.map enc) i = some ((a76 x l).map (i + ·))
 | [],i=>rfl
 | y :: l,i=>by
  simp only [List.map_cons,a22,ho.eq,a76]
  by_cases h:x = y
  ·simp [h]
  ·rw [decide_eq_false h,cond_false,ho.find x l (i + 1),if_neg h]
   cases a76 x l with
   | none=>rfl
   | some k=>simp only [Option.map_some,Option.some.injEq];omega
theorem KeyOk.lookup (ho:KeyOk E t kt et enc) {h:FHeap} {m v z:AV} {zl:List AV} {d:TypeDesc} {l:List α} {vs:List AV} (hz:E.zero et = some zl) (hd:E.und et = some d) (hz1:a7h d zl = some z) (hm:b0p h m = some (l.map enc,vs)) (x:α)
 (hv:(match a76 x l with|some i=>vs[i]?|none=>some z) = some v):a2w E h t m (enc x) false = some v:=by
 unfold a2w
 rw [ho.und]
 simp only [ho.ty,ho.val,Bool.and_self,cond_true,hm,hz,hd,ho.find]
 cases hp:a76 x l with
 | none=>
  rw [hp] at hv
  cases hv
  simp only [Option.map_none]
  unfold a7h at hz1
  cases ha:a2a d with
  | true=>rw [ha] at hz1;simpa using hz1
  | false=>
   rw [ha] at hz1
   simp only [cond_false] at hz1 ⊢
   split at hz1
   ·cases hz1;rfl
   ·cases hz1
 | some i=>
  rw [hp] at hv
  simp only [Option.map_some,Nat.zero_add]
  simp only at hv
  rw [hv];rfl
theorem KeyOk.pairs (ho:KeyOk E t kt et enc) {h:FHeap} {b:Nat} {l:List α} {vs:List AV} {bs:List Nat} {cl:Nat} (hb:h b = some (.map (l.map enc) vs bs cl)) (x:α):a97 E h t (.map b) (enc x) = some (b,l.map enc,vs,bs,cl,a76 x l):=by
 unfold a97
 rw [ho.und]
 simp only [ho.ty,ho.val,Bool.and_self,cond_true,hb,ho.find]
 cases hp:a76 x l with
 | none=>rfl
 | some i=>
  simp only [Option.map_some,Nat.zero_add]
  have:(l.map enc)[i]? = some (enc x):=by rw [List.getElem?_map,a3l hp];rfl
  rw [this]
  simp only [ho.same,cond_true]
theorem KeyOk.update (ho:KeyOk E t kt et enc) {h:FHeap} {b:Nat} {l:List α} {vs:List AV} {bs:List Nat} {cl:Nat} (hb:h b = some (.map (l.map enc) vs bs cl)) (x:α) (v:AV) :
 a1n E h t (.map b) (enc x) v = some (.set b (match a76 x l with|some i=>.map (l.map enc) (vs.set i v) bs cl|none=>.map (l.map enc ++ [enc x]) (vs ++ [v]) (bs ++ [cl]) (cl + 1))):=by
 unfold a1n
 rw [ho.pairs hb x]
 cases a76 x l<;>rfl
theorem KeyOk.entry (ho:KeyOk E t kt et enc) {h:FHeap} {b:Nat} {l:List α} {vs:List AV} {bs:List Nat} {cl:Nat} (hb:h b = some (.map (l.map enc) vs bs cl)) (x:α) {r:AV × Eff} {zl:List AV} {d:TypeDesc} {z:AV} (hz:E.zero et = some zl) (hd:E.und et = some d) (hz1:a7h d zl = some z)
 (hr:(match a76 x l with|some i=>(match vs[i]?,bs[i]? with|some v,some s=>some (.tuple [v,.int .i64 s],Eff.set b (.map (l.map enc) vs bs cl))|_,_=>none)|none=>some (.tuple [z,.int .i64 cl],.set b (.map (l.map enc ++ [enc x]) (vs ++ [z]) (bs ++ [cl]) (cl + 1)))) = some r) :
 a4i E h t (.map b) (enc x) = some r:=by
 unfold a4i
 rw [ho.pairs hb x]
 cases hp:a76 x l with
 | none=>
  rw [hp] at hr
  simp only at hr ⊢
  rw [ho.und]
  simp only [hz,hd,hz1]
  exact hr
 | some i=>
  rw [hp] at hr
  simp only at hr ⊢
  exact hr
end
theorem b74 (n j:Nat) (h:j < n):(List.range n).findIdx? (fun (x:Nat)=>(x:Int) == (j:Int)) = some j:=by
 rw [List.findIdx?_eq_some_iff_getElem]
 refine ⟨by simpa using h,by simp,?_⟩
 intro k hk
 simp
 omega
theorem a94 {h:FHeap} {b:Nat} {ks vs:List AV} {n:Nat} {cl:Nat} {k:IntKind} (hb:h b = some (.map ks vs (List.range n) cl)) {j:Nat} (hj:j < n) (v:AV):a27 h (.map b) (.int k j) v = some (.set b (.map ks (vs.set j v) (List.range n) cl)):=by
 unfold a27
 simp only [hb]
 rw [b74 n j hj]
/-! ### the values that a key has collected -/
def atE {α:Type} [DecidableEq α] (x:α) (es:List (α × List Nat)):List Nat:=match a76 x (es.map (·.1)) with
 | some j=>(es[j]?.map (·.2)).getD []
 | none=>[]
def a90 {α:Type} [DecidableEq α] (es:List (α × List Nat)) (x:α) (i:Nat):List (α × List Nat):=match a76 x (es.map (·.1)) with
 | some j=>es.set j (x,atE x es ++ [i])
 | none=>es ++ [(x,[i])]
theorem b31 {α:Type} [DecidableEq α] {x:α}:∀ (a b:List α),a76 x (a ++ b) = (a76 x a).or ((a76 x b).map (a.length + ·))
 | [],b=>by simp [a76]
 | y :: a,b=>by
  simp only [List.cons_append,a76]
  split
  ·rfl
  ·rw [b31 a b]
   cases a76 x a with
   | some j=>rfl
   | none=>
    cases a76 x b with
    | none=>rfl
    | some j=>simp;omega
theorem b4n {α:Type} [DecidableEq α] (es:List (α × List Nat)) (x y:α) (i:Nat):atE y (a90 es x i) = if y = x then atE y es ++ [i] else atE y es:=by
 unfold a90
 cases hp:a76 x (es.map (·.1)) with
 | none=>
  simp only
  unfold atE
  rw [List.map_append,b31]
  by_cases h:y = x
  ·subst h
   rw [hp]
   simp [a76]
  ·cases hy:a76 y (es.map (·.1)) with
   | none=>simp [a76,h]
   | some j=>
    have:=(List.getElem?_eq_some_iff.1 (a3l hy)).1
    rw [List.length_map] at this
    simp [h,List.getElem?_append_left this]
 | some j=>
  simp only
  have hj:=a3l hp
  have hjl:j < es.length:=by simpa using (List.getElem?_eq_some_iff.1 hj).1
  have key:∀ X:List Nat,atE y (es.set j (x,X)) = if y = x then X else atE y es:=by
   intro X
   have hk:(es.set j (x,X)).map (·.1) = es.map (·.1):=by
    rw [List.map_set]
    apply List.ext_getElem?
    intro k
    rw [List.getElem?_set]
    by_cases hjk:j = k
    ·subst hjk;rw [if_pos rfl,if_pos (by simpa using hjl),hj]
    ·rw [if_neg hjk]
   unfold atE
   rw [hk]
   by_cases h:y = x
   ·subst h
    rw [hp,if_pos rfl]
    simp [hjl]
   ·rw [if_neg h]
    cases hy:a76 y (es.map (·.1)) with
    | none=>rfl
    | some k=>
     have hne:j ≠ k:=by
      intro e;subst e
      have:=a3l hy
      rw [hj] at this;exact h (Option.some.inj this).symm
     simp only
     rw [List.getElem?_set,if_neg hne]
  rw [key]
  by_cases h:y = x
  ·rw [if_pos h,if_pos h,h]
  ·rw [if_neg h,if_neg h]
end Go.Ax
/- AxMapT: a map of growing slices of numbers, wherever its blocks lie. -/
namespace Go.Ax
def nR (n:Nat):List AV:=[.int .i64 n]
theorem b7o (l:List Nat):FlatR (l.map nR):=FlatR.map fun _=>rfl
structure MSl {α:Type} [DecidableEq α] (enc:α → AV) (H:a04) (c b:Nat) (ids:Nat → Nat) (es:List (α × List Nat)):Prop where
 cell:a02 H c = some (.row 1 [[.map b]])
 top:a02 H b = some (.map ((es.map (·.1)).map enc) (es.mapIdx fun j e=>.slice (ids j) 0 e.2.length none) (List.range es.length) es.length)
 sub:∀ (j:Nat) (e:α × List Nat),es[j]? = some e → a02 H (ids j) = some (.row 1 (e.2.map nR))
 inj:∀ j k,j < es.length → k < es.length → ids j = ids k → j = k
section
variable {α:Type} [DecidableEq α] {enc:α → AV} {H H1:a04} {R:Nat → Prop} {π:Nat → Option Nat} {c b:Nat} {ids:Nat → Nat} {es:List (α × List Nat)}
def MSl.blocks (c b:Nat) (ids:Nat → Nat) (n:Nat):List Nat:=c :: b :: (List.range n).map ids
theorem MSl.mem_blocks {d n:Nat}:d ∈ MSl.blocks c b ids n ↔ d = c ∨ d = b ∨ ∃ j,j < n ∧ d = ids j:=by
 unfold MSl.blocks
 simp only [List.mem_cons,List.mem_map,List.mem_range]
 constructor
 ·rintro (h|h|⟨j,hj,rfl⟩)
  ·exact .inl h
  ·exact .inr (.inl h)
  ·exact .inr (.inr ⟨j,hj,rfl⟩)
 ·rintro (h|h|⟨j,hj,rfl⟩)
  ·exact .inl h
  ·exact .inr (.inl h)
  ·exact .inr (.inr ⟨j,hj,rfl⟩)
theorem MSl.bc (h:MSl enc H c b ids es):c ≠ b:=by
 intro e;have h1:=h.cell;rw [e,h.top] at h1;cases h1
theorem MSl.sub_c (h:MSl enc H c b ids es) {j:Nat} (hj:j < es.length):ids j ≠ c ∧ ids j ≠ b:=by
 obtain ⟨e,he⟩:∃ e,es[j]? = some e:=⟨_,List.getElem?_eq_getElem hj⟩
 have h1:=h.sub j e he
 refine ⟨fun hh=>?_,fun hh=>?_⟩
 ·rw [hh,h.cell] at h1
  cases hl:e.2 with
  | nil=>rw [hl] at h1;cases h1
  | cons a r=>rw [hl] at h1;cases h1
 ·rw [hh,h.top] at h1;cases h1
theorem MSl.lt (h:MSl enc H c b ids es):∀ d ∈ MSl.blocks c b ids es.length,d < H.length:=by
 intro d hd
 rcases MSl.mem_blocks.1 hd with rfl|rfl|⟨j,hj,rfl⟩
 ·exact a0r h.cell
 ·exact a0r h.top
 ·obtain ⟨e,he⟩:∃ e,es[j]? = some e:=⟨_,List.getElem?_eq_getElem hj⟩
  exact a0r (h.sub j e he)
omit [DecidableEq α] in
theorem a74 {enc:α → AV} (hf:∀ x,refs (enc x) = []):∀ l:List α,a0l (l.map enc) = []
 | []=>rfl
 | x :: l=>by simp only [List.map_cons,a0l,hf x,a74 hf l,List.append_nil]
theorem a7k:∀ l:List AV,a0l l = l.flatMap refs
 | []=>rfl
 | v :: l=>by simp only [a0l,List.flatMap_cons,a7k l]
theorem MSl.top_refs (hf:∀ x,refs (enc x) = []) (h:MSl enc H c b ids es) {d:Nat}:d ∈ a14 (a02 H b) ↔ ∃ j,j < es.length ∧ d = ids j:=by
 rw [h.top]
 show d ∈ a0l _ ++ a0l _ ↔ _
 rw [a74 hf,List.nil_append,a7k]
 simp only [List.mem_flatMap]
 constructor
 ·rintro ⟨r,hr,hc⟩
  obtain ⟨j,hj⟩:=List.mem_iff_getElem?.1 hr
  rw [List.getElem?_mapIdx] at hj
  cases he:es[j]? with
  | none=>rw [he] at hj;cases hj
  | some e=>
   rw [he] at hj;cases hj
   exact ⟨j,(List.getElem?_eq_some_iff.1 he).1,by simpa [refs] using hc⟩
 ·rintro ⟨j,hj,rfl⟩
  obtain ⟨e,he⟩:∃ e,es[j]? = some e:=⟨_,List.getElem?_eq_getElem hj⟩
  exact ⟨.slice (ids j) 0 e.2.length none,List.mem_iff_getElem?.2 ⟨j,by rw [List.getElem?_mapIdx,he];rfl⟩,by simp [refs]⟩
theorem MSl.closed (hf:∀ x,refs (enc x) = []) (h:MSl enc H c b ids es):∀ d ∈ MSl.blocks c b ids es.length,∀ d' ∈ a14 (a02 H d),d' ∈ MSl.blocks c b ids es.length:=by
 intro d hd d' hd'
 rw [MSl.mem_blocks] at hd ⊢
 rcases hd with rfl|rfl|⟨j,hj,rfl⟩
 ·rw [h.cell] at hd'
  simp [a14,a0l,refs] at hd'
  exact .inr (.inl hd')
 ·exact .inr (.inr ((h.top_refs hf).1 hd'))
 ·obtain ⟨e,he⟩:∃ e,es[j]? = some e:=⟨_,List.getElem?_eq_getElem hj⟩
  rw [h.sub j e he,a0t (b7o _)] at hd'
  simp at hd'
theorem b3z {β:Type}:∀ (l:List AV) (f:AV → List β),(∀ v ∈ l,(f v).length ≤ 1) → (l.flatMap f).length ≤ l.length
 | [],_,_=>by simp
 | v :: l,f,h=>by
  have h1:=h v (by simp)
  have h2:=b3z l f (fun v hv=>h v (by simp [hv]))
  simp only [List.flatMap_cons,List.length_append,List.length_cons];omega
theorem MSl.cost (hf:∀ x,refs (enc x) = []) (h:MSl enc H c b ids es):((MSl.blocks c b ids es.length).map fun d=>(a14 (a02 H d)).length).sum ≤ es.length + 1:=by
 unfold MSl.blocks
 have e1:(a14 (a02 H c)).length = 1:=by rw [h.cell];rfl
 have e3:(a14 (a02 H b)).length ≤ es.length:=by
  rw [h.top]
  show (a0l _ ++ a0l _).length ≤ _
  rw [a74 hf,List.nil_append,a7k]
  refine Nat.le_trans (b3z _ refs ?_) (by simp)
  intro v hv
  obtain ⟨j,hj⟩:=List.mem_iff_getElem?.1 hv
  rw [List.getElem?_mapIdx] at hj
  cases he:es[j]? with
  | none=>rw [he] at hj;cases hj
  | some e=>rw [he] at hj;cases hj;simp [refs]
 have e4:(((List.range es.length).map ids).map fun c=>(a14 (a02 H c)).length).sum = 0:=by
  refine b26 _ ?_
  intro d hd
  obtain ⟨j,hj,rfl⟩:=List.mem_map.1 hd
  obtain ⟨e,he⟩:∃ e,es[j]? = some e:=⟨_,List.getElem?_eq_getElem (by simpa using hj)⟩
  rw [h.sub j e he];exact a0t (b7o _)
 simp only [List.map_cons,List.sum_cons,e1,e4]
 omega
theorem MSl.mv (hf:∀ x,refs (enc x) = []) (h:MSl enc H c b ids es) (hm:Mv H R π H1) (hc:R c):∃ c' b' ids',π c = some c' ∧ π b = some b' ∧ (∀ j,j < es.length → π (ids j) = some (ids' j)) ∧ MSl enc H1 c' b' ids' es:=by
 have hb:R b:=hm.closed c hc b (by rw [h.cell];simp [a14,a0l,refs])
 have hid:∀ j,j < es.length → R (ids j):=fun j hj=>hm.closed b hb _ ((h.top_refs hf).2 ⟨j,hj,rfl⟩)
 obtain ⟨c',ec⟩:=hm.here c hc
 obtain ⟨b',eb⟩:=hm.here b hb
 have ei:∀ j,j < es.length → π (ids j) = some ((π (ids j)).getD 0):=fun j hj=>by obtain ⟨d,hd⟩:=hm.here _ (hid j hj);rw [hd];rfl
 refine ⟨c',b',fun j=>(π (ids j)).getD 0,ec,eb,ei,?_,?_,?_,?_⟩
 ·rw [hm.heap c c' hc ec,h.cell]
  simp only [Option.map_some,a11,List.map_cons,List.map_nil,Ax.ren,eb]
 ·rw [hm.heap b b' hb eb,h.top]
  simp only [Option.map_some,a11]
  congr 2
  ·exact a46 π (a74 hf _)
  ·apply List.ext_getElem?
   intro j
   rw [List.getElem?_map,List.getElem?_mapIdx,List.getElem?_mapIdx]
   cases he:es[j]? with
   | none=>rfl
   | some e=>
    have:=ei j (List.getElem?_eq_some_iff.1 he).1
    simp only [Option.map_some,Ax.ren]
    rw [this];rfl
 ·intro j e he
  have hj:=(List.getElem?_eq_some_iff.1 he).1
  rw [hm.heap _ _ (hid j hj) (ei j hj),h.sub j e he]
  simp only [Option.map_some,a11,a0d π (b7o _)]
 ·intro j k hj hk e
  have e1:=ei j hj
  have e2:=ei k hk
  rw [e] at e1
  exact h.inj j k hj hk (hm.inj _ _ _ e1 e2)
theorem MSl.same (h:MSl enc H c b ids es) (h1:∀ d ∈ MSl.blocks c b ids es.length,a02 H1 d = a02 H d):MSl enc H1 c b ids es:=
 ⟨by rw [h1 c (MSl.mem_blocks.2 (.inl rfl)),h.cell],by rw [h1 b (MSl.mem_blocks.2 (.inr (.inl rfl))),h.top],fun j e he=>by
  rw [h1 (ids j) (MSl.mem_blocks.2 (.inr (.inr ⟨j,(List.getElem?_eq_some_iff.1 he).1,rfl⟩))),h.sub j e he],h.inj⟩
theorem MSl.more {L:a04} (h:MSl enc H c b ids es):MSl enc (H ++ L) c b ids es:=h.same fun d hd=>a1x (eq_true (h.lt d hd))
def MSl.obj (enc:α → AV) (ids:Nat → Nat) (es:List (α × List Nat)) (x:α) (n:Nat):AObj:=match a76 x (es.map (·.1)) with
 | some j=>.map ((es.map (·.1)).map enc) ((es.mapIdx fun j e=>AV.slice (ids j) 0 e.2.length none).set j (.slice n 0 ((atE x es).length + 1) none)) (List.range es.length) es.length
 | none=>.map ((es.map (·.1)).map enc ++ [enc x]) ((es.mapIdx fun j e=>AV.slice (ids j) 0 e.2.length none) ++ [.slice n 0 ((atE x es).length + 1) none]) (List.range es.length ++ [es.length]) (es.length + 1)
theorem MSl.add (h:MSl enc H c b ids es) (x:α) (i n:Nat) (hn:H.length ≤ n) (h1:a02 H1 b = some (MSl.obj enc ids es x n)) (h2:a02 H1 n = some (.row 1 ((atE x es ++ [i]).map nR)))
 (h3:∀ d,d < H.length → d ≠ b → (∀ j,a76 x (es.map (·.1)) = some j → d ≠ ids j) → a02 H1 d = a02 H d) :
 ∃ ids',MSl enc H1 c b ids' (a90 es x i) ∧ (∀ j,j < (a90 es x i).length → ids' j = n ∨ (j < es.length ∧ ids' j = ids j)) ∧ (a90 es x i).length ≤ es.length + 1:=by
 have hlt:=h.lt
 have hidl:∀ j,j < es.length → ids j < H.length:=fun j hj=>hlt _ (MSl.mem_blocks.2 (.inr (.inr ⟨j,hj,rfl⟩)))
 have hcl:=a0r h.cell
 have hcc:a02 H1 c = a02 H c:=h3 c hcl h.bc (fun j hj=>by
  have hjl:j < es.length:=by simpa using (List.getElem?_eq_some_iff.1 (a3l hj)).1
  exact Ne.symm (h.sub_c hjl).1)
 unfold MSl.obj at h1
 unfold a90
 cases hp:a76 x (es.map (·.1)) with
 | none=>
  rw [hp] at h1
  have hat:atE x es = []:=by unfold atE;rw [hp]
  simp only [hat,List.length_nil,Nat.zero_add,List.nil_append] at h1 h2 ⊢
  refine ⟨fun j=>if j = es.length then n else ids j,⟨by rw [hcc,h.cell],?_,?_,?_⟩,?_,by simp⟩
  ·rw [h1]
   congr 2
   ·simp
   ·apply List.ext_getElem?
    intro j
    rw [List.getElem?_mapIdx]
    by_cases hj:j < es.length
    ·rw [List.getElem?_append_left (by simpa using hj),List.getElem?_append_left hj,List.getElem?_mapIdx,List.getElem?_eq_getElem hj]
     simp [show j ≠ es.length by omega]
    ·by_cases hj2:j = es.length
     ·subst hj2;simp
     ·rw [List.getElem?_eq_none (by simp;omega),List.getElem?_eq_none (by simp;omega)];rfl
   ·simp [List.range_succ]
   ·simp
  ·intro j e he
   by_cases hj:j < es.length
   ·rw [List.getElem?_append_left hj] at he
    simp only [if_neg (show j ≠ es.length by omega)]
    rw [h3 _ (hidl j hj) (h.sub_c hj).2 (fun k hk=>by rw [hp] at hk;cases hk),h.sub j e he]
   ·have hj2:j = es.length:=by
     have:=(List.getElem?_eq_some_iff.1 he).1
     simp at this;omega
    subst hj2
    simp at he
    subst he
    simp only [if_true]
    rw [h2]
  ·intro j k hj hk e
   simp only [List.length_append,List.length_singleton] at hj hk
   by_cases h1:j = es.length<;>by_cases h2:k = es.length
   ·omega
   ·simp only [h1,if_true,if_neg h2] at e
    have:=hidl k (by omega);omega
   ·simp only [h2,if_true,if_neg h1] at e
    have:=hidl j (by omega);omega
   ·simp only [if_neg h1,if_neg h2] at e
    exact h.inj j k (by omega) (by omega) e
  ·intro j hj
   simp only [List.length_append,List.length_singleton] at hj
   by_cases h1:j = es.length
   ·exact .inl (if_pos h1)
   ·exact .inr ⟨by omega,if_neg h1⟩
 | some q=>
  rw [hp] at h1
  have hq:=a3l hp
  have hql:q < es.length:=by simpa using (List.getElem?_eq_some_iff.1 hq).1
  simp only at h1 ⊢
  refine ⟨fun j=>if j = q then n else ids j,⟨by rw [hcc,h.cell],?_,?_,?_⟩,?_,by simp⟩
  ·rw [h1]
   congr 2
   ·congr 1
    rw [List.map_set]
    apply List.ext_getElem?
    intro k
    rw [List.getElem?_set]
    by_cases hjk:q = k
    ·subst hjk;rw [if_pos rfl,if_pos (by simpa using hql),hq]
    ·rw [if_neg hjk]
   ·apply List.ext_getElem?
    intro j
    rw [List.getElem?_set,List.getElem?_mapIdx,List.getElem?_mapIdx,List.getElem?_set,List.length_mapIdx]
    by_cases hjq:q = j
    ·subst hjq;simp [hql]
    ·rw [if_neg hjq,if_neg hjq]
     simp only [if_neg (Ne.symm hjq)]
   ·rw [List.length_set]
   ·rw [List.length_set]
  ·intro j e he
   rw [List.getElem?_set] at he
   by_cases hjq:q = j
   ·subst hjq
    rw [if_pos rfl,if_pos hql] at he
    cases he
    simp only [if_true]
    exact h2
   ·rw [if_neg hjq] at he
    have hj:=(List.getElem?_eq_some_iff.1 he).1
    simp only [if_neg (Ne.symm hjq)]
    rw [h3 _ (hidl j hj) (h.sub_c hj).2 (fun k hk=>by
     rw [hp] at hk;cases hk
     intro e;exact hjq (h.inj j q hj hql e).symm),h.sub j e he]
  ·intro j k hj hk e
   rw [List.length_set] at hj hk
   by_cases h1:j = q<;>by_cases h2:k = q
   ·omega
   ·simp only [h1,if_true,if_neg h2] at e
    have:=hidl k (by omega);omega
   ·simp only [h2,if_true,if_neg h1] at e
    have:=hidl j (by omega);omega
   ·simp only [if_neg h1,if_neg h2] at e
    exact h.inj j k (by omega) (by omega) e
  ·intro j hj
   rw [List.length_set] at hj
   by_cases h1:j = q
   ·exact .inl (if_pos h1)
   ·exact .inr ⟨hj,if_neg h1⟩
end
section
variable {α:Type} [DecidableEq α] {E:Env} {t kt et:TypeId} {enc:α → AV}
def b15 (enc:α → AV) (es:List (α × List Nat)):AV:=.imap ((es.map (·.1)).map enc) (es.map fun e=>.islice (e.2.map nR) none) (List.range es.length) es.length
theorem KeyOk.ilook (ho:KeyOk E t kt et enc) {zl:List AV} {d:TypeDesc} (hz:E.zero et = some zl) (hd:E.und et = some d) (hz1:a7h d zl = some .nilslice) (es:List (α × List Nat)) (x:α) :
 ∃ rr:Option (Option Nat),∀ h,a2w E h t (b15 enc es) (enc x) false = some (sl rr ((atE x es).map nR)):=by
 cases hp:a76 x (es.map (·.1)) with
 | none=>
  refine ⟨none,fun h=>?_⟩
  have e:atE x es = []:=by unfold atE;rw [hp]
  rw [e]
  exact ho.lookup hz hd hz1 (l:=es.map (·.1)) (vs:=es.map fun e=>.islice (e.2.map nR) none) rfl x (by rw [hp];rfl)
 | some j=>
  refine ⟨some none,fun h=>?_⟩
  have hjl:j < es.length:=by simpa using (List.getElem?_eq_some_iff.1 (a3l hp)).1
  have e:atE x es = es[j].2:=by unfold atE;rw [hp];simp [List.getElem?_eq_getElem hjl]
  rw [e]
  refine ho.lookup hz hd hz1 (l:=es.map (·.1)) (vs:=es.map fun e=>.islice (e.2.map nR) none) rfl x ?_
  rw [hp]
  simp only
  rw [List.getElem?_map,List.getElem?_eq_getElem hjl,Option.map_some,a7i]
theorem KeyOk.look (ho:KeyOk E t kt et enc) {zl:List AV} {d:TypeDesc} (hz:E.zero et = some zl) (hd:E.und et = some d) (hz1:a7h d zl = some .nilslice) {h:FHeap} {b:Nat} {ids:Nat → Nat} {es:List (α × List Nat)} (hb:h b = some (.map ((es.map (·.1)).map enc) (es.mapIdx fun j e=>.slice (ids j) 0 e.2.length none) (List.range es.length) es.length)) (x:α) :
 a2w E h t (.map b) (enc x) false = some (match a76 x (es.map (·.1)) with|some j=>.slice (ids j) 0 (atE x es).length none|none=>.nilslice):=by
 have hm:b0p h (.map b) = some ((es.map (·.1)).map enc,es.mapIdx fun j e=>.slice (ids j) 0 e.2.length none):=by unfold b0p;simp only [hb]
 refine ho.lookup hz hd hz1 hm x ?_
 cases hp:a76 x (es.map (·.1)) with
 | none=>rfl
 | some j=>
  have hjl:j < es.length:=by simpa using (List.getElem?_eq_some_iff.1 (a3l hp)).1
  have e:atE x es = es[j].2:=by unfold atE;rw [hp];simp [List.getElem?_eq_getElem hjl]
  simp only
  rw [List.getElem?_mapIdx,List.getElem?_eq_getElem hjl,Option.map_some,e]
end
section
variable {α:Type} [DecidableEq α] {enc:α → AV} {H:a04} {c b:Nat} {ids:Nat → Nat} {es:List (α × List Nat)}
theorem c2q {m:Nat} {d:AV → Option AV}:∀ (vs out:List AV),vs.length = out.length → (∀ (j:Nat) r o,vs[j]? = some r → out[j]? = some o → a3z m false d r = some o) → a5l m false d vs = some out
 | [],out,hl,_=>by cases out with|nil=>rfl|cons=>simp at hl
 | r :: rows,[],hl,_=>by simp at hl
 | r :: rows,o :: out,hl,hh=>by
  rw [a59,hh 0 r o rfl rfl]
  simp only [a0k]
  rw [c2q rows out (by simpa using hl) (fun j r o hr ho=>hh (j + 1) r o (by simpa using hr) (by simpa using ho))]
theorem MSl.frz (hf:∀ x,refs (enc x) = []) (h:MSl enc H c b ids es) (n:Nat):a6k (a02 H) 0 (n + 3) (.ptr c 0 0) = some (.iptr [b15 enc es]):=by
 have hmap:a6k (a02 H) 0 (n + 2) (.map b) = some (b15 enc es):=by
  show (match a02 H b with
   | some (.map ks vs bs cl)=>match a5l 0 false (a6k (a02 H) 0 (n + 1)) ks,a5l 0 false (a6k (a02 H) 0 (n + 1)) vs with
    | some ks,some vs=>some (AV.imap ks vs bs cl)
    | _,_=>none
   | _=>none) = _
  rw [h.top]
  simp only
  rw [a68 0 false _ _ (a74 hf _)]
  rw [c2q _ (es.map fun e=>.islice (e.2.map nR) none) (by simp)]
  ·rfl
  ·intro j r o hr ho
   rw [List.getElem?_mapIdx] at hr
   rw [List.getElem?_map] at ho
   cases he:es[j]? with
   | none=>rw [he] at hr;cases hr
   | some e=>
    rw [he] at hr ho
    cases hr;cases ho
    rw [a8h,decide_eq_false (Nat.not_lt_zero _),cond_false,a7a (eq_true (by omega:0 < n + 1)),h.sub j e he]
    simp only [a9c,a0k,List.drop_zero,Nat.zero_add,List.length_map]
    rw [decide_eq_true (Nat.le_refl _),cond_true,List.take_of_length_le (by simp),a0q _ _ (b7o _)]
 rw [c2u (eq_true (by omega:0 < n + 3)),h.cell]
 simp only [a9c,a0k,List.getElem?_cons_zero,List.drop_zero]
 rw [a59,a8v,d77,decide_eq_false (Nat.not_lt_zero _),cond_false]
 show a0k (a0k (a6k (a02 H) 0 (n + 2) (.map b)) _) _ = _
 rw [hmap]
 rfl
theorem b3v {n:Nat} {v v':AV} (h:a02 H c = some (.row 1 [[v]])) (hv:a3z 0 false (a6k (a02 H) 0 n) v = some v'):a6k (a02 H) 0 (n + 1) (.ptr c 0 0) = some (.iptr [v']):=by
 rw [c2u (eq_true (by omega:0 < n + 1)),h]
 simp only [a9c,a0k,List.getElem?_cons_zero,List.drop_zero]
 show a0k (a5l 0 false (a6k (a02 H) 0 n) [v]) _ = _
 rw [a59,a8v,hv]
 rfl
end
end Go.Ax
/- AxCpy: copy and clear, as rewrite rules. -/
namespace Go.Ax
section
variable {E:Env} {draw:Bool} {call:CallF} {F:Frm} {H:a04} {h:FHeap}
def cpT (E:Env) (t:TypeId):Option Nat:=match E.und t with
 | some (.slice e)=>bif (E.und e).isSome then some (E.sz e) else none
 | _=>none
end
end Go.Ax
/- AxFz: a loop that freezes at its end, as rewrite rules. -/
namespace Go.Ax
@[go_sem] theorem e62 (m:Nat) (H:a04) (v:AV):d9i m H v = (a3z m true (a6k (a02 H) m 12) v).getD .junk:=by
 unfold d9i;cases a3z m true (a6k (a02 H) m 12) v<;>rfl
@[go_sem] theorem e3k (m:Nat) (top:Bool) (d:AV → Option AV):a3z m top d .junk = some .junk:=by rfl
@[go_sem] theorem e1g (m:Nat) (H:a04) (s:Nat) (v:AV) (F:Frm):c2t m H ((s,v) :: F) = (s,d9i m H v) :: c2t m H F:=by rfl
@[go_sem] theorem e3n (m:Nat) (H:a04):c2t m H [] = []:=by rfl
@[go_sem] theorem e85 (H:a04):c2s 0 H = []:=by simp [c2s]
@[go_sem] theorem d9h {α:Type} (a b:α):(some a).getD b = a:=by rfl
@[go_sem] theorem e1a (s:Nat):a43 [] s = .junk:=by rfl
@[go_sem] theorem e0k:refs .junk = []:=by rfl
theorem e5w (m:Nat) (Q:b24) (e:AExit) (F:Frm) (H:a04):fz m Q e F H = Q e (c2t m H F) (c2s m H):=by rfl
theorem d0b {E:Env} {M:List Fact} {m N:Nat} {g:FuncId} {cur:Nat} {keep:List Nat} {b:Code} {F:Frm} {H:a04} {Q:b24} (hk:E.keep g cur = keep) (hz:d06 keep = true) {σ:Type} (Fs:σ → Frm) (Hs:σ → a04) (meas:σ → Nat) (Inv:σ → Prop) (s0:σ) (h0:gcD m keep F H = some (Fs s0,Hs s0)) (hi:Inv s0)
 (h:∀ s,Inv s → Wp (cx E M m N g cur) b (Fs s) (Hs s) (lp m keep Fs Hs meas Inv (meas s) (fz m Q))):Wp (cx E M m N g cur) (.loop b) F H Q:=by
 refine e00 hk hz (fun n F1 H1=>∃ s,F1 = Fs s ∧ H1 = Hs s ∧ n = meas s ∧ Inv s) (meas s0) ⟨_,_,h0,s0,rfl,rfl,rfl,hi⟩ ?_
 rintro n F1 H1 ⟨s,rfl,rfl,rfl,hs⟩
 refine c5n (h s hs) ?_
 intro e F' H' h2
 cases e with
 | normal=>obtain ⟨s',g1,g2,g3⟩:=h2;exact ⟨_,_,_,g1,g2,s',rfl,rfl,rfl,g3⟩
 | exit id=>exact h2
 | ret=>exact h2
end Go.Ax
