/- AxZ: a function whose own memory is frozen behind each of its outermost statements. -/
import Derived.Test.YtgmenpackpnmaaaGreatDoorAxC
import Derived.Test.YtgmenpackpnmaaaGreatDoorAxE
set_option linter.unusedSimpArgs false
set_option linter.unusedVariables false
namespace Go.Ax
def e60 (E:Env) (m0 N:Nat) (keep:Nat → List Nat) (call:FuncId → List AV → a05 → Option (AV × a05)) (lf:Nat) {R:Type}:Nat → Code → Frm → a05 → (AExit → Frm → a05 → Option R) → Option R
 | cur,.seq a b,F,H,k=>e60 E m0 N keep call lf cur a F H fun e F' H'=>match e with
  | .normal=>e60 E m0 N keep call lf cur b (d13 m0 H' F') (c9a m0 H') k
  | e=>k e F' H'
 | cur,c,F,H,k=>a6o E m0 N keep call lf cur c F H k
theorem d4c {E:Env} (ok:EnvOk E) {call:FuncId → List AV → a05 → Option (AV × a05)} (hcall:a3l E call) {e:Entry} {N lf:Nat} {keep:Nat → List Nat} {R:Type}:∀ (c:Code),a28 c = true →
 ∀ {cur:Nat} {k:AExit → Frm → a05 → Option R} {r:R} {Q:Exit → Act → World → Prop},(∀ x F H I ρ a w,Now E e N F H I ρ a w → k x F H = some r → Q x.conv a w) →
 ∀ {F:Frm} {H:a05} {I:Nat → Prop} {ρ:PMap} {a:Act} {w:World},Now E e N F H I ρ a w → e60 E e.m N keep call lf cur c F H k = some r → c.wp E.P Q a w:=by
 intro c
 induction c with
 | seq x y ihx ihy=>
  intro hst cur k r Q hQ F H I ρ a w hnow hrun
  simp only [a28,Bool.and_eq_true] at hst
  refine wp_seq (ihx hst.1 ?_ hnow hrun)
  intro x F H I ρ a w hn hk
  cases x with
  | normal=>
   obtain ⟨I',ρ',h'⟩:=hn.frz
   exact ihy hst.2 hQ h' hk
  | exit id=>exact hQ (.exit id) F H I ρ a w hn hk
  | ret=>exact hQ .ret F H I ρ a w hn hk
 | _=>intro hst cur k r Q hQ F H I ρ a w hnow hrun;exact c9u ok hcall _ hst hQ hnow hrun
def e6u (E:Env) (call:FuncId → List AV → a05 → Option (AV × a05)) (lf:Nat) (f:FuncId) (args:List AV) (H:a05):Option (AV × a05):=
 match E.fn f with
 | none=>none
 | some i=>bif Nat.ble args.length i.ntmps then
  e60 E H.length i.ntmps (E.keep f) call lf 0 i.code (a3v 0 args) H fun e F' H'=>match e with
   | .exit _=>none
   | _=>match a1b E F' H' i.results with
    | some vs=>a1v (E.thaw f) H.length (a7j vs) H'
    | none=>none
  else none
theorem d7f {E:Env} (ok:EnvOk E) (hdr:∀ f i,E.fn f = some i → a28 i.code = true) {call:FuncId → List AV → a05 → Option (AV × a05)} (hcall:a3l E call) (lf:Nat):a3l E (e6u E call lf):=by
 intro g args H v H' hrun I K ρ w cargs rel hn ha
 unfold e6u at hrun
 split at hrun
 ·cases hrun
 rename_i i hi
 rw [cond_eq_ite] at hrun
 split at hrun
 case isFalse=>cases hrun
 rename_i hle
 obtain ⟨fn,h1,h2,h3,h4,_⟩:=ok.fn g i hi
 refine calls_of_wp h1 h2 ?_
 rw [h3]
 let e:Entry:=⟨I,K,ρ,H.length,w,[]⟩
 have hnow:Now E e i.ntmps (a3v 0 args) H I ρ { tmps:=cargs.toArray ++ Array.replicate (i.ntmps - cargs.toArray.size) undef,defers:=[] } w:=
  ⟨fun _ h=>h,fun _ _=>rfl,Ext.refl _ _ _,rel,hn,b9g (by simpa [Nat.ble_eq] using hle) ha,Nat.le_refl _,rfl⟩
 refine d4c (e:=e) ok hcall i.code (hdr g i hi) ?_ hnow hrun
 intro x F' H1 I1 ρ1 a w1 hn1 hk
 have fin:(match a1b E F' H1 i.results with
  | some vs=>a1v (E.thaw g) H.length (a7j vs) H1
  | none=>none) = some (v,H') → a.defers = [] ∧ ∃ c,(results fn a.tmps).run E.P w1 = .ok c w1 ∧ ∃ c' I' ρ',Ending.returned c = .returned c' ∧ Ret E I K ρ H.length w I' ρ' H' w1 ∧ VRel I' w1 ρ' v c':=by
  intro hk
  split at hk
  case h_2=>cases hk
  rename_i vs hvs
  rw [← h4] at hvs
  obtain ⟨c,hr,hv⟩:=b58 ok hn1.rel hn1.frm.2 hvs
  obtain ⟨I2,ρ2,f1,f2,f3,f4,f5,f6⟩:=b9d hk hn1.low hn1.rel hn1.nrel hv
  exact ⟨hn1.defers,c,hr,c,I2,ρ2,rfl,⟨fun c hc=>f1 c (hn1.imm c hc),fun b hb=>by rw [f2 b hb];exact hn1.map b hb,hn1.ext,f3,f4,f5⟩,f6⟩
 cases x with
 | normal=>exact fin hk
 | exit id=>cases hk
 | ret=>exact fin hk
theorem d3v {E:Env} (ok:EnvOk E) (hdr:∀ f i,E.fn f = some i → a28 i.code = true) {M:List Fact} (hM:∀ x ∈ M,a0k E x) (n:Nat) {g:Nat} {args:List AV} {v:AV} (h:e6u E (c7z E M n) n g args [] = some (v,[])) :
 a0k E ⟨g,args,v⟩:=d7f ok hdr (b6x ok hdr hM n) n g args [] v [] h
end Go.Ax
/- AxMelt: calls over flat arguments that return a pointer to a block of their own. -/
namespace Go.Ax
theorem c5m {E:Env} {call:CallF} {g:FuncId} {fs cs ar args:List AV} {H:a05} {k:Nat} {rows:List (List AV)} (hx:E.ext g = false) (hf:(E.fn g).isSome = true) (he:fs ++ ar ++ cs = args) (hargs:a0e args = []) (hr:call g args [] = some (.ptr 0 0 0,[some (.row k rows)])) (hfl:FlatR rows) :
 a0c E false call (.func (.func g) fs cs) ar H = some (.ptr H.length 0 0,H ++ [some (.row k rows)],[]):=by
 have hc:=a1c (call g) args H (σ:=[]) (by rw [hargs];rfl) rfl rfl (args':=args) (a44 _ hargs) (H0:=[]) rfl hr
 have hp:∀ (s:Nat) (H:a05),a0x [] H.length [some (AObj.row k rows)] s H = H:=by
  intro s H
  have:∀ (n s:Nat) (H:a05),a0x [] n [some (AObj.row k rows)] s H = H:=by
   intro n s H
   induction H generalizing s with
   | nil=>rfl
   | cons x H ih=>simp [a0x,ih]
  exact this _ _ _
 rw [hp] at hc
 have h1:=fun π=>a04 π hfl
 have hb:ren (a1d [] H.length) (.ptr 0 0 0) = .ptr H.length 0 0:=rfl
 rw [hb] at hc
 simp only [List.length_nil,List.drop_zero,List.map_cons,List.map_nil,Option.map_some,a0v,h1] at hc
 exact a8k hx hf he hc
@[go_sem] theorem d9b {v:AV} {H:a05}:a1v true 0 v H = e1b 0 v H:=by rfl
theorem c55 {m:Nat} (hm:(m = 0) = False) {v:AV} {H:a05}:a1v true m v H = some (v,H):=by
 cases m with
 | zero=>simp at hm
 | succ n=>rfl
attribute [go_sem] c55
@[go_sem] theorem e59 {m b i o:Nat} {H:a05}:e1b m (.ptr b i o) H = bif decide (m ≤ b) then a0i (a80 (a02 H b)) fun kr=>a0i (c1m m (a94 (a31 (a02 H) b) m 12) kr.2) fun rows'=>some (.ptr m i o,(H.take m).map (Option.map (a0v (a1k m))) ++ [some (.row kr.1 rows')]) else none:=by
 have e:Nat.ble m b = decide (m ≤ b):=by rw [Bool.eq_iff_iff,Nat.ble_eq,decide_eq_true_eq]
 simp only [e1b,e]
 cases decide (m ≤ b) with
 | false=>rfl
 | true=>
  simp only [cond_true]
  cases h:a02 H b with
  | none=>rfl
  | some ob=>cases ob with
   | row k rows=>simp only [a80,a0i];cases c1m m (a94 (a31 (a02 H) b) m 12) rows<;>rfl
   | map=>rfl
   | siter=>rfl
@[go_sem] theorem e5l {m:Nat} {d:AV → Option AV}:c1m m d [] = some []:=by rfl
@[go_sem] theorem e3k {m:Nat} {d:AV → Option AV} {r:List AV} {rs:List (List AV)}:c1m m d (r :: rs) = a0i (a68 m true d r) fun r'=>a0i (c1m m d rs) fun rs'=>some (r' :: rs'):=by
 simp only [c1m]
 cases a68 m true d r with
 | none=>rfl
 | some r'=>cases c1m m d rs<;>rfl
@[go_sem] theorem e0q {h:FHeap} {b x:Nat}:a31 h b x = bif decide (x = b) then none else h x:=by
 unfold a31
 by_cases hx:x = b
 ·subst hx;rw [show Nat.beq x x = true from Nat.beq_refl x,decide_eq_true rfl]
 ·rw [decide_eq_false hx]
  cases hq:Nat.beq x b with
  | false=>rfl
  | true=>exact absurd (Nat.eq_of_beq_eq_true hq) hx
theorem b5d {n:Nat} {H1:a05}:∀ (R:a05) (s:Nat),2 ≤ s → a0x [0,1] n H1 s R = R
 | [],s,_=>by simp [a0x]
 | o :: R,s,hs=>by
  have e:([0,1]:List Nat).idxOf? s = none:=by
   rw [List.idxOf?_eq_none_iff];simp;omega
  simp only [a0x,e,b5d R (s + 1) (by omega)]
theorem c3r {E:Env} {draw:Bool} {call:CallF} {g:FuncId} {fs cs ar args:List AV} {X Y:AObj} {R:a05} {v:AV} (hx:E.ext g = false) (hf:(E.fn g).isSome = true) (he:fs ++ ar ++ cs = args) (hargs:a0e args = [0]) (hX:a0w (some X) = [1]) (hY:a0w (some Y) = [])
 (ha:args.map (ren (a59 [0,1])) = args) (hX1:a0v (a59 [0,1]) X = X) (hX2:∀ n,a0v (a1d [0,1] n) X = X) (hYf:FlatO (some Y)) (hr:call g args [some X,some Y] = some (v,[some X,some Y])) (hv:refs v = []) :
 a0c E draw call (.func (.func g) fs cs) ar (some X :: some Y :: R) = some (v,some X :: some Y :: R,[0,1]):=by
 have hY1:∀ π,a0v π Y = Y:=fun π=>by have:=hYf π;simpa using this
 have hc:=a1c (call g) args (some X :: some Y :: R) (σ:=[0,1]) (by rw [hargs];simp +decide only [go_sem,hX,hY]) rfl (by simp) ha (H0:=[some X,some Y]) (by simp [a1y,a02,hX1,hY1]) hr
 have hp:a0x [0,1] (some X :: some Y :: R).length [some X,some Y] 0 (some X :: some Y :: R) = some X :: some Y :: R:=by
  simp only [b8n,b5d R 2 (by omega)]
  simp +decide [c2k,a02,hX2,hY1,List.idxOf?_cons]
 rw [hp,a1a _ v hv] at hc
 simp only [List.length_cons,List.length_nil,List.drop_succ_cons,List.drop_zero,List.map_nil,List.append_nil] at hc
 exact a2u hx hf he hc rfl
end Go.Ax
/- AxCpy: copy and clear, ar rewrite rules. -/
namespace Go.Ax
section
variable {E:Env} {draw:Bool} {call:CallF} {F:Frm} {H:a05} {h:FHeap}
@[go_sem] theorem e6n (x y:Operand) (t u:TypeId):a11 E draw call F H (.call { callee:=.builtin .copy,args:=#[x,y],argTypes:=#[t,u] }) = a0i (b4g E (a02 H) t (opv E F x) (opv E F y)) fun z=>bif z.2.fits H.length then some (z.1,b0h H z.2,⟨a0t (opv E F x) ++ a0t (opv E F y),z.2.keys H.length⟩) else none:=
 a5g rfl rfl (by simp [a7c])
@[go_sem] theorem e4p (x:Operand) (t:TypeId):a11 E draw call F H (.call { callee:=.builtin .clear,args:=#[x],argTypes:=#[t] }) = a0i (b0q E (a02 H) t (opv E F x)) fun z=>bif z.2.fits H.length then some (z.1,b0h H z.2,⟨a0t (opv E F x),z.2.keys H.length⟩) else none:=
 a5g rfl rfl (by simp [a7c])
def e3x (E:Env) (t:TypeId):Option Nat:=match E.und t with
 | some (.slice e)=>bif (E.und e).isSome then some (E.sz e) else none
 | _=>none
theorem c1z (t:TypeId) (b o l:Nat) (c:Option Nat) (x:AV) (hl:(l = 0) = False):b4g E h t (.slice b o l c) x = a0i (e3x E t) fun k=>a0i (a23 h k x) fun xs=>a0i (a80 (h b)) fun kr=>
 bif decide (kr.1 = k) && decide (o + l ≤ kr.2.length) && decide (0 < l) && (xs.take l).all (fun r=>r.all AV.storable) then
  some (.int .i64 ((xs.take l).length:Nat),.set b (.row kr.1 (kr.2.take o ++ xs.take l ++ kr.2.drop (o + (xs.take l).length)))) else none:=by
 have h0:Nat.beq l 0 = false:=by rw [c2p,b7q];exact decide_eq_false (by rw [hl];exact id)
 unfold b4g e3x
 cases E.und t with
 | none=>rfl
 | some d=>
  cases d<;>try rfl
  rename_i e
  simp only
  cases (E.und e).isSome with
  | false=>rfl
  | true=>
   simp only [cond_true,a0i]
   cases a23 h (E.sz e) x with
   | none=>rfl
   | some xs=>
    simp only [h0,cond_false]
    cases hb:h b with
    | none=>simp only [hb];rfl
    | some ob=>cases ob<;>simp only [hb,a80,a0i,b7q,c61,c5q]
attribute [go_sem] c1z
@[go_sem] theorem e1w (t:TypeId) (b o:Nat) (c:Option Nat) (x:AV):b4g E h t (.slice b o 0 c) x = a0i (e3x E t) fun k=>a0i (a23 h k x) fun _=>some (.int .i64 0,.none):=by
 unfold b4g e3x
 cases E.und t with
 | none=>rfl
 | some d=>
  cases d<;>try rfl
  rename_i e
  simp only
  cases (E.und e).isSome with
  | false=>rfl
  | true=>
   simp only [cond_true,a0i]
   cases a23 h (E.sz e) x<;>rfl
def e8v (E:Env) (t:TypeId):Option (Nat × List AV):=match E.und t with
 | some (.slice e)=>match E.zero e with|some z=>bif z.all AV.storable then some (E.sz e,z) else none|none=>none
 | _=>none
theorem c09 (t:TypeId) (b o l:Nat) (c:Option Nat) (hl:(l = 0) = False):b0q E h t (.slice b o l c) = a0i (e8v E t) fun kz=>a0i (a80 (h b)) fun kr=>
 bif decide (kr.1 = kz.1) && decide (o + l ≤ kr.2.length) then some (.tuple [],.set b (.row kr.1 (kr.2.take o ++ List.replicate l kz.2 ++ kr.2.drop (o + l)))) else none:=by
 have h0:Nat.beq l 0 = false:=by rw [c2p,b7q];exact decide_eq_false (by rw [hl];exact id)
 unfold b0q e8v
 cases E.und t with
 | none=>rfl
 | some d=>
  cases d<;>try rfl
  rename_i e
  simp only [h0,cond_false]
  cases E.zero e with
  | none=>rfl
  | some z=>
   simp only [a0i]
   cases hb:h b with
   | none=>cases z.all AV.storable<;>simp [hb,a80]
   | some ob=>cases ob<;>cases hz:z.all AV.storable<;>simp [hb,a80,b7q,c61]
attribute [go_sem] c09
end
section
variable {E:Env} {t:TypeId} {c:Bool} {x y:BitVec 64}
@[go_sem] theorem e7k:a5l E .mul t (u64 x) (u64 y) c = some (u64 (x * y)):=by
 simp only [u64,d55,a6p,BitVec.toNat_mul]
 congr 2
@[go_sem] theorem e7w:a5l E .gtr t (u64 x) (u64 y) c = some (.bool (decide (y.toNat < x.toNat))):=by
 simp only [u64,d56]
 congr 2
 simp only [Int.ofNat_lt]
end
section
variable {E:Env} {h:FHeap} {t:TypeId}
@[go_sem] theorem e1o {b o n:Nat} {c:Option Nat} {k:IntKind} {i:Int}:a3p E h t (.slice b o n c) (some (.int k i)) none none = a0i (slT E t) fun e=>a0i (a80 (h b)) fun kr=>bif isT E e && decide (kr.1 = E.sz e) && inB i n then some (.slice b (o + i.toNat) (n - i.toNat) (c.map (·- i.toNat))) else none:=by
 cases hs:slT E t with
 | none=>exact a8z hs (fun _ h=>by cases h)
 | some e=>
  simp only [a3p,a39.1 hs,a0i,a90,isT]
  cases hb:h b with
  | none=>cases (E.und e).isSome<;>rfl
  | some ob=>cases ob with
   | map=>cases (E.und e).isSome<;>rfl
   | siter=>cases (E.und e).isSome<;>rfl
   | row kk rows=>
    simp only [a80,b7q]
    have e0:∀ m,a1g (none:Option AV) m n = some n:=fun _=>rfl
    cases (E.und e).isSome<;>cases decide (kk = E.sz e)<;>first|rfl|(simp only [cond_true,Bool.true_and,e0];cases inB i n<;>rfl)
end
theorem d05 {E:Env} {draw:Bool} {call:CallF} {g:FuncId} {fs cs ar args:List AV} {H:a05} (hx:E.ext g = false) (hf:(E.fn g).isSome = true) (he:fs ++ ar ++ cs = args) {v:AV} {H':a05} {σ:List Nat}
 (h:a35 (call g) args H = some (v,H',σ)) (hl:H'.length = H.length + 1):a0c E draw call (.func (.func g) fs cs) ar H = some (v,H',σ):=by
 simp only [a0c,hx,hf,he,cond_true,cond_false,h,c2p,hl,BEq.rfl,Bool.or_true,Bool.not_true,Bool.and_false]
theorem d04 {E:Env} {draw:Bool} {call:CallF} {g:FuncId} {fs cs ar args:List AV} {H:a05} {v v':AV} {b:Nat} {o o' o2:AObj} (hx:E.ext g = false) (hf:(E.fn g).isSome = true) (he:fs ++ ar ++ cs = args)
 (hb:a02 H b = some o) (ho:a0w (some o) = []) (hfl:FlatO (some o)) (hargs:a0e args = [b]) {args':List AV} (ha:args.map (ren (a59 [b])) = args') (hr:call g args' [some o] = some (v,[some o',some o2])) (hfl':FlatO (some o')) (hfl2:FlatO (some o2)) (hv:ren (a1d [b] H.length) v = v') :
 a0c E draw call (.func (.func g) fs cs) ar H = some (v',H.set b (some o') ++ [some o2],[b]):=by
 have hlt:=a0m hb
 have hc:=a1c (call g) args H (σ:=[b]) (by rw [hargs];exact b2s (by rw [hb];exact ho)) rfl (by simpa using hlt) ha (H0:=[some o]) (by simp only [a1y,List.map_cons,List.map_nil,hb];congr 1;exact hfl _) hr
 have hp:∀ (s:Nat) (R:a05),a0x [b] H.length [some o',some o2] s R = a0x [b] H.length [some o'] s R:=by
  intro s R
  induction R generalizing s with
  | nil=>rfl
  | cons x R ih=>
   simp only [a0x,ih]
   cases hs:([b]:List Nat).idxOf? s with
   | none=>rfl
   | some j=>
    have:j = 0:=by
     have:=(List.getElem?_eq_some_iff.1 (a1f hs)).1
     simpa using this
    subst this;rfl
 have h2:=hfl2 (a1d [b] H.length)
 rw [hv,hp,a9c b _ _ hfl' 0 H (Nat.zero_le _)] at hc
 simp only [Nat.sub_zero,List.drop_succ_cons,List.drop_zero,List.map_nil,List.map_cons,List.length_cons,List.length_nil,h2] at hc
 exact d05 hx hf he hc (by simp)
end Go.Ax
/- AxFz: a loop that freezes at its end, as rewrite rules. -/
namespace Go.Ax
end Go.Ax
/- AxTab: a table of rows of words in blocks, wherever they lie; heads of loops and calls over it. -/
namespace Go.Ax
def b4i (w:BitVec 64):List AV:=[u64 w]
structure Mv (H:a05) (R:Nat → Prop) (π:Nat → Option Nat) (H1:a05):Prop where
 inj:∀ a b c,π a = some c → π b = some c → a = b
 closed:∀ b,R b → ∀ c ∈ a0w (a02 H b),R c
 here:∀ b,R b → ∃ c,π b = some c
 heap:∀ b c,R b → π b = some c → a02 H1 c = (a02 H b).map (a0v π)
theorem Gc.mv {m:Nat} {F:Frm} {H H1:a05} {R:Nat → Prop} {π:Nat → Option Nat} (g:Gc m F H R π H1):Mv H R π H1:=⟨g.inj,g.closed,g.here,fun b c _ h=>g.heap b c h⟩
structure Tbl (H:a05) (a b q:Nat) (ids:Nat → Nat) (w:Nat) (fo:List (List (BitVec 64))) (from':Int):Prop where
 out:a02 H a = some (.row 1 [[.slice b 0 fo.length (some fo.length)]])
 top:a02 H b = some (.row 1 ((List.range fo.length).map fun j=>[.slice (ids j) 0 w (some w)]))
 sub:∀ (j:Nat) (f:List (BitVec 64)),fo[j]? = some f → a02 H (ids j) = some (.row 1 (f.map b4i)) ∧ ids j ≠ a ∧ ids j ≠ b ∧ ids j ≠ q ∧ f.length = w
 frm:a02 H q = some (.row 1 [[.int .i64 from']])
 ab:a ≠ b
 aq:a ≠ q
 bq:b ≠ q
 inj:∀ i j,i < fo.length → j < fo.length → ids i = ids j → i = j
theorem b7f (l:List (BitVec 64)):FlatR (l.map b4i):=FlatR.map fun _=>rfl
section
variable {H H1:a05} {R:Nat → Prop} {π:Nat → Option Nat} {a b q:Nat} {ids:Nat → Nat} {w:Nat} {fo:List (List (BitVec 64))} {fr:Int}
theorem Tbl.top_refs (h:Tbl H a b q ids w fo fr) {c:Nat}:c ∈ a0w (a02 H b) ↔ ∃ j,j < fo.length ∧ c = ids j:=by
 rw [h.top]
 show c ∈ ((List.range fo.length).map fun j=>[AV.slice (ids j) 0 w (some w)]).flatMap a0e ↔ _
 simp only [List.mem_flatMap,List.mem_map,List.mem_range]
 constructor
 ·rintro ⟨r,⟨j,hj,rfl⟩,hc⟩
  exact ⟨j,hj,by simpa [a0e,refs] using hc⟩
 ·rintro ⟨j,hj,rfl⟩
  exact ⟨_,⟨j,hj,rfl⟩,by simp [a0e,refs]⟩
theorem Tbl.mv (h:Tbl H a b q ids w fo fr) (hm:Mv H R π H1) (ha:R a) (hq:R q):∃ a' b' q' ids',π a = some a' ∧ π b = some b' ∧ π q = some q' ∧ (∀ j,j < fo.length → π (ids j) = some (ids' j)) ∧ Tbl H1 a' b' q' ids' w fo fr:=by
 have hb:R b:=hm.closed a ha b (by rw [h.out];simp [a0w,a0e,refs])
 have hid:∀ j,j < fo.length → R (ids j):=fun j hj=>hm.closed b hb _ (h.top_refs.2 ⟨j,hj,rfl⟩)
 obtain ⟨a',ea⟩:=hm.here a ha
 obtain ⟨b',eb⟩:=hm.here b hb
 obtain ⟨q',eq⟩:=hm.here q hq
 have ei:∀ j,j < fo.length → π (ids j) = some ((π (ids j)).getD 0):=fun j hj=>by obtain ⟨c,hc⟩:=hm.here _ (hid j hj);rw [hc];rfl
 refine ⟨a',b',q',fun j=>(π (ids j)).getD 0,ea,eb,eq,ei,?_,?_,?_,?_,?_,?_,?_,?_⟩
 ·rw [hm.heap a a' ha ea,h.out]
  simp only [Option.map_some,a0v,List.map_cons,List.map_nil,Ax.ren,eb]
 ·rw [hm.heap b b' hb eb,h.top]
  simp only [Option.map_some,a0v,List.map_map]
  congr 2
  refine List.map_congr_left fun j hj=>?_
  have:=ei j (by simpa using hj)
  simp only [Function.comp,List.map_cons,List.map_nil,Ax.ren]
  rw [this];rfl
 ·intro j f hf
  obtain ⟨g1,g2,g3,g4,g5⟩:=h.sub j f hf
  have hj:j < fo.length:=(List.getElem?_eq_some_iff.1 hf).1
  have e:=ei j hj
  refine ⟨?_,?_,?_,?_,g5⟩
  ·rw [hm.heap _ _ (hid j hj) e,g1]
   simp only [Option.map_some,a0v,a04 π (b7f f)]
  ·intro he;rw [he] at e;exact g2 (hm.inj _ _ _ e ea)
  ·intro he;rw [he] at e;exact g3 (hm.inj _ _ _ e eb)
  ·intro he;rw [he] at e;exact g4 (hm.inj _ _ _ e eq)
 ·rw [hm.heap q q' hq eq,h.frm];rfl
 ·intro e;subst e;exact h.ab (hm.inj _ _ _ ea eb)
 ·intro e;subst e;exact h.aq (hm.inj _ _ _ ea eq)
 ·intro e;subst e;exact h.bq (hm.inj _ _ _ eb eq)
 ·intro i j hi hj e
  have e1:=ei i hi
  have e2:=ei j hj
  rw [e] at e1
  exact h.inj i j hi hj (hm.inj _ _ _ e1 e2)
theorem Tbl.put (h:Tbl H a b q ids w fo fr) {i k:Nat} {f:List (BitVec 64)} {x:BitVec 64} (hf:fo[i]? = some f):Tbl (H.set (ids i) (some (.row 1 ((f.set k x).map b4i)))) a b q ids w (fo.set i (f.set k x)) fr:=by
 obtain ⟨g1,g2,g3,g4,g5⟩:=h.sub i f hf
 have hi:i < fo.length:=(List.getElem?_eq_some_iff.1 hf).1
 have hil:=a0m g1
 refine ⟨?_,?_,?_,?_,h.ab,h.aq,h.bq,?_⟩
 ·rw [a3f g2,h.out,List.length_set]
 ·rw [a3f g3,h.top,List.length_set]
 ·intro j f' hf'
  rw [List.getElem?_set] at hf'
  by_cases hij:i = j
  ·subst hij
   simp only [if_true,hi,Option.some.injEq] at hf'
   subst hf'
   exact ⟨b1m hil,g2,g3,g4,by rw [List.length_set];exact g5⟩
  ·rw [if_neg hij] at hf'
   obtain ⟨k1,k2,k3,k4,k5⟩:=h.sub j f' hf'
   refine ⟨?_,k2,k3,k4,k5⟩
   rw [a3f,k1]
   intro e
   exact hij (h.inj i j hi (List.getElem?_eq_some_iff.1 hf').1 e)
 ·rw [a3f g4,h.frm]
 ·intro i' j hi' hj;rw [List.length_set] at hi' hj;exact h.inj i' j hi' hj
theorem Tbl.same (h:Tbl H a b q ids w fo fr) (h1:∀ c,(c = a ∨ c = b ∨ c = q ∨ ∃ j,j < fo.length ∧ c = ids j) → a02 H1 c = a02 H c):Tbl H1 a b q ids w fo fr:=
 ⟨by rw [h1 a (.inl rfl),h.out],by rw [h1 b (.inr (.inl rfl)),h.top],fun j f hf=>by
  obtain ⟨g1,g2⟩:=h.sub j f hf
  exact ⟨by rw [h1 (ids j) (.inr (.inr (.inr ⟨j,(List.getElem?_eq_some_iff.1 hf).1,rfl⟩))),g1],g2⟩,by rw [h1 q (.inr (.inr (.inl rfl))),h.frm],h.ab,h.aq,h.bq,h.inj⟩
theorem Tbl.more {L:a05} (h:Tbl H a b q ids w fo fr):Tbl (H ++ L) a b q ids w fo fr:=by
 refine h.same fun c hc=>a5j (eq_true ?_)
 rcases hc with rfl|rfl|rfl|⟨j,hj,rfl⟩
 ·exact a0m h.out
 ·exact a0m h.top
 ·exact a0m h.frm
 ·obtain ⟨f,hf⟩:∃ f,fo[j]? = some f:=⟨_,List.getElem?_eq_getElem hj⟩
  exact a0m (h.sub j f hf).1
def Tbl.blocks (a b q:Nat) (ids:Nat → Nat) (n:Nat):List Nat:=a :: b :: q :: (List.range n).map ids
theorem Tbl.mem_blocks {c n:Nat}:c ∈ Tbl.blocks a b q ids n ↔ c = a ∨ c = b ∨ c = q ∨ ∃ j,j < n ∧ c = ids j:=by
 unfold Tbl.blocks
 simp only [List.mem_cons,List.mem_map,List.mem_range]
 constructor
 ·rintro (h|h|h|⟨j,hj,rfl⟩)
  ·exact .inl h
  ·exact .inr (.inl h)
  ·exact .inr (.inr (.inl h))
  ·exact .inr (.inr (.inr ⟨j,hj,rfl⟩))
 ·rintro (h|h|h|⟨j,hj,rfl⟩)
  ·exact .inl h
  ·exact .inr (.inl h)
  ·exact .inr (.inr (.inl h))
  ·exact .inr (.inr (.inr ⟨j,hj,rfl⟩))
theorem Tbl.closed (h:Tbl H a b q ids w fo fr):∀ c ∈ Tbl.blocks a b q ids fo.length,∀ d ∈ a0w (a02 H c),d ∈ Tbl.blocks a b q ids fo.length:=by
 intro c hc d hd
 rw [Tbl.mem_blocks] at hc ⊢
 rcases hc with rfl|rfl|rfl|⟨j,hj,rfl⟩
 ·rw [h.out] at hd
  simp [a0w,a0e,refs] at hd
  exact .inr (.inl hd)
 ·obtain ⟨j,hj,rfl⟩:=h.top_refs.1 hd
  exact .inr (.inr (.inr ⟨j,hj,rfl⟩))
 ·rw [h.frm] at hd
  simp [a0w,a0e,refs] at hd
 ·obtain ⟨f,hf⟩:∃ f,fo[j]? = some f:=⟨_,List.getElem?_eq_getElem hj⟩
  rw [(h.sub j f hf).1,a0u (b7f f)] at hd
  simp at hd
theorem Tbl.cost (h:Tbl H a b q ids w fo fr):((Tbl.blocks a b q ids fo.length).map fun c=>(a0w (a02 H c)).length).sum ≤ fo.length + 1:=by
 unfold Tbl.blocks
 have e1:(a0w (a02 H a)).length = 1:=by rw [h.out];rfl
 have e2:(a0w (a02 H q)).length = 0:=by rw [h.frm];rfl
 have e3:(a0w (a02 H b)).length = fo.length:=by
  rw [h.top]
  have hlen:∀ l:List Nat,((l.map fun j=>[AV.slice (ids j) 0 w (some w)]).flatMap a0e).length = l.length:=by
   intro l;induction l with
   | nil=>rfl
   | cons x l ih=>simp only [List.map_cons,List.flatMap_cons,List.length_append,ih,List.length_cons];simp [a0e,refs];omega
  have:=hlen (List.range fo.length)
  rw [List.length_range] at this
  exact this
 have e4:(((List.range fo.length).map ids).map fun c=>(a0w (a02 H c)).length).sum = 0:=by
  refine a9q _ ?_
  intro c hc
  obtain ⟨j,hj,rfl⟩:=List.mem_map.1 hc
  obtain ⟨f,hf⟩:∃ f,fo[j]? = some f:=⟨_,List.getElem?_eq_getElem (by simpa using hj)⟩
  rw [(h.sub j f hf).1];exact a0u (b7f f)
 simp only [List.map_cons,List.sum_cons,e1,e2,e3,e4]
 omega
end
/-! ### calls, wherever the blocks lie -/
theorem b8b {H:a05} {σ:List Nat} (hn:σ.Nodup) {b:Nat} (hb:b ∈ σ):∃ j,a59 σ b = some j ∧ σ[j]? = some b ∧ a02 (a1y H σ (a59 σ)) j = (a02 H b).map (a0v (a59 σ)):=by
 obtain ⟨j,hj⟩:=List.mem_iff_getElem?.1 hb
 refine ⟨j,a3e hn hj,hj,?_⟩
 unfold a1y a02
 rw [List.getElem?_map,hj];rfl
theorem e2r {H H1:a05} {σ:List Nat} {n b j:Nat} (hn:σ.Nodup) (hj:σ[j]? = some b) (hb:b < H.length):a02 (a0x σ n H1 0 H) b = (a02 H1 j).map (a0v (a1d σ n)):=by
 unfold a02
 rw [a6d,List.getElem?_eq_getElem hb,Nat.zero_add,a3e hn hj]
 rfl
theorem c7j {H H1:a05} {σ:List Nat} {n b:Nat} (hb:b ∉ σ):a02 (a0x σ n H1 0 H) b = a02 H b:=by
 unfold a02
 rw [a6d,Nat.zero_add]
 have:σ.idxOf? b = none:=by
  cases h:σ.idxOf? b with
  | none=>rfl
  | some j=>exact absurd (List.mem_of_getElem? (a1f h)) hb
 rw [this]
 cases H[b]?<;>rfl
theorem a9d {σ:List Nat} {n:Nat} {H1:a05}:∀ (s:Nat) (H:a05),(a0x σ n H1 s H).length = H.length
 | _,[]=>rfl
 | s,o :: H=>by simp [a0x,a9d (s + 1) H]
theorem c2r {H:a05} {init σ:List Nat} (hr:Reached H init σ):Mv H (·∈ σ) (a59 σ) (a1y H σ (a59 σ)):=by
 refine ⟨?_,hr.closed,fun b hb=>?_,fun b c hb hc=>?_⟩
 ·intro a b c ha hb
  have h1:=a1f ha
  have h2:=a1f hb
  rw [h1] at h2;exact Option.some.inj h2
 ·obtain ⟨j,hj,_⟩:=b8b (H:=H) hr.nodup hb;exact ⟨j,hj⟩
 ·obtain ⟨j,hj,_,e⟩:=b8b (H:=H) hr.nodup hb
  rw [hj] at hc;cases hc;exact e
theorem c7y {H H1:a05} {σ:List Nat} (hn:σ.Nodup) (hl:∀ b ∈ σ,b < H.length) (R:Nat → Prop) (hR:∀ j,R j → j < σ.length) (hc:∀ j,R j → ∀ c ∈ a0w (a02 H1 j),R c):Mv H1 R (a1d σ H.length) (a0x σ H.length H1 0 H):=by
 have hb:∀ j,j < σ.length → a1d σ H.length j = σ[j]?:=fun j hj=>by
  unfold a1d;rw [show Nat.blt j σ.length = true by rw [Nat.blt_eq];exact hj];rfl
 have hge:∀ j,¬ j < σ.length → a1d σ H.length j = some (H.length + (j - σ.length)):=fun j hj=>by
  unfold a1d
  have:Nat.blt j σ.length = false:=by rw [Bool.eq_false_iff];intro h;rw [Nat.blt_eq] at h;exact hj h
  rw [this];rfl
 refine ⟨?_,hc,fun j hj=>?_,fun j c hj hjc=>?_⟩
 ·intro x y c hx hy
  by_cases h1:x < σ.length<;>by_cases h2:y < σ.length
  ·rw [hb x h1] at hx;rw [hb y h2] at hy
   exact (List.getElem?_inj h1 hn).1 (hx.trans hy.symm)
  ·rw [hb x h1] at hx;rw [hge y h2] at hy
   have:=hl c (List.mem_of_getElem? hx)
   cases hy;omega
  ·rw [hge x h1] at hx;rw [hb y h2] at hy
   have:=hl c (List.mem_of_getElem? hy)
   cases hx;omega
  ·rw [hge x h1] at hx;rw [hge y h2] at hy
   cases hx;simp only [Option.some.injEq] at hy;omega
 ·rw [hb j (hR j hj)];exact ⟨_,List.getElem?_eq_getElem (hR j hj)⟩
 ·rw [hb j (hR j hj)] at hjc
  exact e2r hn hjc (hl c (List.mem_of_getElem? hjc))
theorem a8m {σ:List Nat} {n b j:Nat} (hj:a59 σ b = some j):a1d σ n j = some b:=by
 have h:=a1f hj
 have hl:=(List.getElem?_eq_some_iff.1 h).1
 unfold a1d
 rw [show Nat.blt j σ.length = true by rw [Nat.blt_eq];exact hl]
 exact h
theorem b48 (run:List AV → a05 → Option (AV × a05)) (args:List AV) (H:a05) (S:List Nat) (h1:∀ b ∈ a0e args,b ∈ S) (h2:∀ b ∈ S,∀ c ∈ a0w (a02 H b),c ∈ S) (h3:∀ b ∈ S,b < H.length)
 (hn:(a0e args).length + (S.map fun b=>(a0w (a02 H b)).length).sum < 1000000) :
 ∃ σ:List Nat,Reached H (a0e args) σ ∧ (∀ b ∈ σ,b < H.length) ∧ ∀ v H1,run (args.map (ren (a59 σ))) (a1y H σ (a59 σ)) = some (v,H1) →
  a35 run args H = some (ren (a1d σ H.length) v,a0x σ H.length H1 0 H ++ (H1.drop σ.length).map (Option.map (a0v (a1d σ H.length))),σ):=by
 have hr:=b5b (H:=H) (init:=a0e args) S h1 h2 hn
 have hlt:∀ b ∈ a2p H 1000000 (a0e args) [],b < H.length:=fun b hb=>h3 b (hr.least (·∈ S) h1 h2 b hb)
 refine ⟨_,hr,hlt,fun v H1 hrun=>?_⟩
 exact a1c run args H rfl (a9z hr.nodup) (by rw [List.all_eq_true];intro b hb;simpa using hlt b hb) rfl rfl hrun
end Go.Ax
/- AxTab2: a table that a call has been given: heads of loops and calls that write it. -/
namespace Go.Ax
section
variable {H H1:a05} {a b q:Nat} {ids:Nat → Nat} {w:Nat} {fo:List (List (BitVec 64))} {fr:Int}
theorem Tbl.congr {ids':Nat → Nat} (h:Tbl H a b q ids' w fo fr) (he:∀ j,j < fo.length → ids' j = ids j):Tbl H a b q ids w fo fr:=by
 refine ⟨h.out,?_,?_,h.frm,h.ab,h.aq,h.bq,?_⟩
 ·rw [h.top];congr 2
  refine List.map_congr_left fun j hj=>?_
  rw [he j (by simpa using hj)]
 ·intro j f hf
  have:=h.sub j f hf
  rwa [he j (List.getElem?_eq_some_iff.1 hf).1] at this
 ·intro i j hi hj e
  exact h.inj i j hi hj (by rw [he i hi,he j hj];exact e)
theorem Tbl.stay {R:Nat → Prop} {π:Nat → Option Nat} (h:Tbl H a b q ids w fo fr) (hm:Mv H R π H1) (ha:R a) (hq:R q) (hπ:∀ c ∈ Tbl.blocks a b q ids fo.length,π c = some c):Tbl H1 a b q ids w fo fr:=by
 obtain ⟨a',b',q',ids',e1,e2,e3,e4,ht⟩:=h.mv hm ha hq
 rw [hπ a (Tbl.mem_blocks.2 (.inl rfl))] at e1
 rw [hπ b (Tbl.mem_blocks.2 (.inr (.inl rfl)))] at e2
 rw [hπ q (Tbl.mem_blocks.2 (.inr (.inr (.inl rfl))))] at e3
 cases e1;cases e2;cases e3
 refine ht.congr fun j hj=>?_
 have:=e4 j hj
 rw [hπ (ids j) (Tbl.mem_blocks.2 (.inr (.inr (.inr ⟨j,hj,rfl⟩))))] at this
 exact (Option.some.inj this).symm
structure TSt (H:a05) (m a b q:Nat) (ids:Nat → Nat) (w:Nat) (fo:List (List (BitVec 64))) (fr:Int):Prop where
 tbl:Tbl H a b q ids w fo fr
 lowf:∀ c,c < m → c ∈ Tbl.blocks a b q ids fo.length ∨ a0w (a02 H c) = []
 bnd:∀ c ∈ Tbl.blocks a b q ids fo.length,c < m
mutual
theorem b8h {m:Nat} {π:Nat → Option Nat} (hπ:∀ c,c < m → π c = some c):∀ (v:AV),(∀ c ∈ refs v,c < m) → ren π v = v
 | .ptr b i o,h=>by simp only [ren,hπ b (h b (by simp [refs]))]
 | .slice b o l c,h=>by simp only [ren,hπ b (h b (by simp [refs]))]
 | .map b,h=>by simp only [ren,hπ b (h b (by simp [refs]))]
 | .func fn fs cs,h=>by
  simp only [refs,List.mem_append] at h
  simp only [ren,a5n hπ fs (fun c hc=>h c (.inl hc)),a5n hπ cs (fun c hc=>h c (.inr hc))]
 | .iface t x,h=>by simp only [refs] at h;simp only [ren,b8h hπ x h]
 | .agg cs,h=>by simp only [refs] at h;simp only [ren,a5n hπ cs h]
 | .tuple cs,h=>by simp only [refs] at h;simp only [ren,a5n hπ cs h]
 | .junk,_|.bool _,_|.int ..,_|.str _,_|.nilptr,_|.nilslice,_|.nilmap,_|.nilfunc,_|.nilifc,_|.iptr _,_|.islice ..,_|.imap ..,_=>rfl
theorem a5n {m:Nat} {π:Nat → Option Nat} (hπ:∀ c,c < m → π c = some c):∀ (l:List AV),(∀ c ∈ a0e l,c < m) → b80 π l = l
 | [],_=>rfl
 | v :: vs,h=>by
  simp only [a0e,List.mem_append] at h
  simp only [b80,b8h hπ v (fun c hc=>h c (.inl hc)),a5n hπ vs (fun c hc=>h c (.inr hc))]
end
theorem a8s {m:Nat} {π:Nat → Option Nat} (hπ:∀ c,c < m → π c = some c) (l:List AV) (h:∀ c ∈ a0e l,c < m):l.map (ren π) = l:=by rw [← a7g];exact a5n hπ l h
theorem b0y {m:Nat} {π:Nat → Option Nat} (hπ:∀ c,c < m → π c = some c) (o:AObj) (h:∀ c ∈ a0w (some o),c < m):a0v π o = o:=by
 cases o with
 | row k rows=>
  simp only [a0v]
  congr 1
  conv=>rhs;rw [← List.map_id rows]
  refine List.map_congr_left fun r hr=>?_
  refine a8s hπ r fun e he=>h e ?_
  simp only [a0w,List.mem_flatMap];exact ⟨r,hr,he⟩
 | map ks vs bs cl=>
  simp only [a0v]
  rw [a8s hπ ks (fun e he=>h e (by simp [a0w,he])),a8s hπ vs (fun e he=>h e (by simp [a0w,he]))]
 | siter s p=>rfl
theorem c0n {f:Nat → Nat}:∀ {l S:List Nat},l.Nodup → (∀ c ∈ l,c ∈ S ∨ f c = 0) → (l.map f).sum ≤ (S.map f).sum
 | [],S,_,_=>by simp
 | c :: l,S,hn,h=>by
  rw [List.nodup_cons] at hn
  rcases h c (by simp) with hc|hc
  ·rw [a9r hc]
   have:=c0n (f:=f) (l:=l) (S:=S.erase c) hn.2 (fun d hd=>by
    rcases h d (by simp [hd]) with h1|h1
    ·exact .inl ((List.mem_erase_of_ne (fun e=>hn.1 (by rw [← e];exact hd))).2 h1)
    ·exact .inr h1)
   simp only [List.map_cons,List.sum_cons];omega
  ·have:=c0n (f:=f) (l:=l) (S:=S) hn.2 (fun d hd=>h d (by simp [hd]))
   simp only [List.map_cons,List.sum_cons,hc];omega
theorem c1d (H:a05):∀ m,m ≤ H.length → ((H.take m).flatMap a0w).length = ((List.range m).map fun c=>(a0w (a02 H c)).length).sum
 | 0,_=>rfl
 | m + 1,h=>by
  have ih:=c1d H m (by omega)
  rw [List.range_succ,List.map_append,List.sum_append,← ih,List.take_add_one,List.flatMap_append,List.length_append]
  congr 1
  rw [List.getElem?_eq_getElem (by omega)]
  simp [a02,List.getElem?_eq_getElem (show m < H.length by omega)]
theorem b0z {m:Nat} {π:Nat → Option Nat} (hπ:∀ c,c < m → π c = some c):∀ F:Frm,(∀ c ∈ a0e (F.map (·.2)),c < m) → c0c π F = F
 | [],_=>rfl
 | (s,v) :: F,h=>by
  simp only [List.map_cons,a0e,List.mem_append] at h
  have:=a8s hπ [v] (by simp only [a0e,List.append_nil];exact fun c hc=>h c (.inl hc))
  simp only [List.map_cons,List.map_nil,List.cons.injEq,and_true] at this
  rw [c79,this,b0z hπ F (fun c hc=>h c (.inr hc))]
theorem TSt.low {m:Nat} (h:TSt H m a b q ids w fo fr):∀ c,c < m → ∀ d ∈ a0w (a02 H c),d ∈ Tbl.blocks a b q ids fo.length:=by
 intro c hc d hd
 rcases h.lowf c hc with h1|h1
 ·exact h.tbl.closed c h1 d hd
 ·rw [h1] at hd;simp at hd
theorem TSt.head {m:Nat} {keep:List Nat} {F:Frm} {xb:AObj} (h:TSt H m a b q ids w fo fr) (hx:a02 H m = some xb) (hxf:a0w (some xb) = []) (hxo:FlatO (some xb)) (hn:fo.length ≤ 1000)
 (hF:∀ c ∈ a0e ((a1q keep F).map (·.2)),c < m + 1) (hFl:(a0e ((a1q keep F).map (·.2))).length ≤ 20) (hFm:m ∈ a0e ((a1q keep F).map (·.2))) (hFa:a ∈ a0e ((a1q keep F).map (·.2))) (hFq:q ∈ a0e ((a1q keep F).map (·.2))) (hFlow:∀ c ∈ a0e ((a1q keep F).map (·.2)),c = m ∨ c ∈ Tbl.blocks a b q ids fo.length ∨ a0w (a02 H c) = []) :
 ∃ H1,gcD m keep F H = some (a1q keep F,H1) ∧ TSt H1 m a b q ids w fo fr ∧ a02 H1 m = some xb ∧ H1.length = m + 1 ∧ ∀ c o,c < m → a02 H c = some o → FlatO (some o) → a02 H1 c = some o:=by
 have hml:=a0m hx
 obtain ⟨R,π,H1,g1,g2,g3⟩:=c34 (m:=m) (keep:=keep) (F:=F) (H:=H) (by omega) (m :: (a0e ((a1q keep F).map (·.2)) ++ Tbl.blocks a b q ids fo.length)) (fun c hc=>by simp [hc]) (fun c hc d hd=>by have:=h.low c hc d hd;simp [this]) (by
  intro c hc d hd
  simp only [List.mem_cons,List.mem_append] at hc
  have hbl:c ∈ Tbl.blocks a b q ids fo.length → d ∈ m :: (a0e ((a1q keep F).map (·.2)) ++ Tbl.blocks a b q ids fo.length):=fun hc=>by have:=h.tbl.closed c hc d hd;simp [this]
  rcases hc with rfl|hc|hc
  ·rw [hx,hxf] at hd;simp at hd
  ·rcases hFlow c hc with rfl|hc|hc
   ·rw [hx,hxf] at hd;simp at hd
   ·exact hbl hc
   ·rw [hc] at hd;simp at hd
  ·exact hbl hc) (by
  have hc1:=h.tbl.cost
  have hc0:=c1d H m (by omega)
  have hc3:=c0n (f:=fun c=>(a0w (a02 H c)).length) (l:=List.range m) (S:=Tbl.blocks a b q ids fo.length) List.nodup_range (fun c hc=>(h.lowf c (by simpa using hc)).imp id (fun e=>by rw [e];rfl))
  have hc2:∀ l:List Nat,(∀ c ∈ l,c = m ∨ c ∈ Tbl.blocks a b q ids fo.length ∨ a0w (a02 H c) = []) → (l.map fun c=>(a0w (a02 H c)).length).sum ≤ l.length * 1001:=by
   intro l
   induction l with
   | nil=>intro _;simp
   | cons c l ih=>
    intro hl
    have h1:=ih (fun c hc=>hl c (by simp [hc]))
    have h2:(a0w (a02 H c)).length ≤ 1001:=by
     rcases hl c (by simp) with rfl|hc|hc
     ·rw [hx,hxf];simp
     ·have:=a9r (f:=fun c=>(a0w (a02 H c)).length) hc
      omega
     ·rw [hc];simp
    simp only [List.map_cons,List.sum_cons,List.length_cons];omega
  have hc4:=hc2 _ hFlow
  simp only [List.map_cons,List.sum_cons,List.map_append,List.sum_append,hx,hxf,List.length_nil]
  omega)
 have hRm:R m:=g2.refs m hFm
 obtain ⟨c,hc⟩:=g2.here m hRm
 have hcx:a02 H1 c = some xb:=by rw [g2.heap m c hc,hx];exact hxo π
 have hlen1:H1.length ≤ m + 1:=by
  refine g2.len [m] fun d hd hmd=>?_
  have:=g2.least (fun d=>d ≤ m) (fun d hd=>by have:=hF d hd;omega) (fun c hc d hd=>by have:=h.bnd d (h.low c hc d hd);omega) (fun c hc d hd=>by
   rcases Nat.lt_or_eq_of_le hc with hlt|rfl
   ·have:=h.bnd d (h.low c hlt d hd);omega
   ·rw [hx,hxf] at hd;simp at hd) d hd
  simp;omega
 have hcm:c = m:=by
  have h1:=a0m hcx
  by_cases h2:c < m
  ·have:=g2.inj _ _ _ hc (g2.low c h2);omega
  ·omega
 subst hcm
 have hπ:∀ d,d < c + 1 → π d = some d:=fun d hd=>by
  by_cases h2:d < c
  ·exact g2.low d h2
  ·have:d = c:=by omega
   rw [this];exact hc
 have hRl:∀ d,d ∈ Tbl.blocks a b q ids fo.length → π d = some d:=fun d hd=>g2.low d (h.bnd d hd)
 refine ⟨H1,?_,⟨?_,?_,h.bnd⟩,hcx,?_,?_⟩
 ·rw [g1,b0z hπ _ hF]
 ·exact h.tbl.stay g2.mv (g2.refs a hFa) (g2.refs q hFq) hRl
 ·intro d hd
  rcases h.lowf d hd with h1|h1
  ·exact .inl h1
  ·refine .inr ?_
   rw [g2.heap d d (g2.low d hd)]
   cases ho:a02 H d with
   | none=>rfl
   | some o=>
    rw [ho] at h1
    rw [Option.map_some,b0y g2.low o (fun e he=>by rw [h1] at he;simp at he)]
    exact h1
 ·have:=a0m hcx;omega
 ·intro d o hd ho hfo
  rw [g2.heap d d (g2.low d hd),ho];exact hfo π
end
theorem a88 (a b:List AV):a0e (a ++ b) = a0e a ++ a0e b:=by
 induction a with
 | nil=>rfl
 | cons v a ih=>simp only [List.cons_append,a0e,ih,List.append_assoc]
theorem d02 {E:Env} {d:Bool} {call:CallF} {g:FuncId} {args:List AV} {H:a05} {m a b q:Nat} {ids:Nat → Nat} {w:Nat} {fo fo':List (List (BitVec 64))} {fr:Int} (hx:E.ext g = false) (hf:(E.fn g).isSome = true)
 (h:TSt H m a b q ids w fo fr) (hm:m ≤ H.length) (hn:fo.length ≤ 1000) (ha:a0e args = []) (hl:fo'.length = fo.length)
 (hrun:∀ (H0:a05) (a' b' q':Nat) (ids':Nat → Nat),Tbl H0 a' b' q' ids' w fo fr → (∀ c,c < H0.length → c ∈ Tbl.blocks a' b' q' ids' fo.length) → ∃ H1,call g (args ++ [.ptr a' 0 0,.ptr q' 0 0]) H0 = some (.tuple [],H1) ∧ H1.length = H0.length ∧ Tbl H1 a' b' q' ids' w fo' fr) :
 ∃ H' σ,a0c E d call (.func (.func g) [] [.ptr a 0 0,.ptr q 0 0]) args H = some (.tuple [],H',σ) ∧ TSt H' m a b q ids w fo' fr ∧ H'.length = H.length ∧ ∀ c,c ∉ Tbl.blocks a b q ids fo.length → a02 H' c = a02 H c:=by
 have hrf:a0e ([] ++ args ++ [AV.ptr a 0 0,.ptr q 0 0]) = [a,q]:=by rw [List.nil_append,a88,ha];rfl
 have hb1:∀ c ∈ [a,q],c ∈ Tbl.blocks a b q ids fo.length:=by
  intro c hc;simp only [List.mem_cons,List.not_mem_nil,or_false] at hc
  rcases hc with rfl|rfl
  ·exact Tbl.mem_blocks.2 (.inl rfl)
  ·exact Tbl.mem_blocks.2 (.inr (.inr (.inl rfl)))
 have hcost:=h.tbl.cost
 obtain ⟨σ,hr,hlt,hgo⟩:=b48 (call g) ([] ++ args ++ [AV.ptr a 0 0,.ptr q 0 0]) H (Tbl.blocks a b q ids fo.length) (by rw [hrf];exact hb1) h.tbl.closed (fun c hc=>by have:=h.bnd c hc;omega) (by rw [hrf];simp only [List.length_cons,List.length_nil];omega)
 rw [hrf] at hr
 have hsub:∀ c ∈ σ,c ∈ Tbl.blocks a b q ids fo.length:=hr.least (·∈ Tbl.blocks a b q ids fo.length) hb1 (fun c hc d hd=>h.tbl.closed c hc d hd)
 have hmv:=c2r hr
 obtain ⟨a',b',q',ids',e1,e2,e3,e4,ht⟩:=h.tbl.mv hmv (hr.start a (by simp)) (hr.start q (by simp))
 have hslen:(a1y H σ (a59 σ)).length = σ.length:=by simp [a1y]
 have hall:∀ c,c < (a1y H σ (a59 σ)).length → c ∈ Tbl.blocks a' b' q' ids' fo.length:=by
  intro j hj
  rw [hslen] at hj
  obtain ⟨c,hc⟩:∃ c,σ[j]? = some c:=⟨_,List.getElem?_eq_getElem hj⟩
  have hpi:a59 σ c = some j:=a3e hr.nodup hc
  have hcb:=hsub c (List.mem_of_getElem? hc)
  rw [Tbl.mem_blocks] at hcb ⊢
  rcases hcb with rfl|rfl|rfl|⟨i,hi,rfl⟩
  ·rw [hpi] at e1;cases e1;exact .inl rfl
  ·rw [hpi] at e2;cases e2;exact .inr (.inl rfl)
  ·rw [hpi] at e3;cases e3;exact .inr (.inr (.inl rfl))
  ·have:=e4 i hi;rw [hpi] at this;cases this;exact .inr (.inr (.inr ⟨i,hi,rfl⟩))
 obtain ⟨H1,hc1,hl1,ht1⟩:=hrun _ a' b' q' ids' ht hall
 have hra:([] ++ args ++ [AV.ptr a 0 0,.ptr q 0 0]).map (ren (a59 σ)) = args ++ [.ptr a' 0 0,.ptr q' 0 0]:=by
  rw [List.nil_append,List.map_append,a44 _ ha]
  simp only [List.map_cons,List.map_nil,ren,e1,e3]
 have hgo:=hgo (.tuple []) H1 (by rw [hra];exact hc1)
 have hd:(H1.drop σ.length) = []:=List.drop_eq_nil_of_le (by rw [hl1,hslen];omega)
 rw [hd,List.map_nil,List.append_nil] at hgo
 have hbk:=c7y (H:=H) (H1:=H1) hr.nodup hlt (fun j=>j < σ.length) (fun j hj=>hj) (by
  intro j hj c hc
  have hjb:=hall j (by rw [hslen];exact hj)
  rw [← hl] at hjb
  have hcb:=ht1.closed j hjb c hc
  have:c < H1.length:=by
   rw [Tbl.mem_blocks] at hcb
   rcases hcb with rfl|rfl|rfl|⟨i,hi,rfl⟩
   ·exact a0m ht1.out
   ·exact a0m ht1.top
   ·exact a0m ht1.frm
   ·obtain ⟨f,hf⟩:∃ f,fo'[i]? = some f:=⟨_,List.getElem?_eq_getElem hi⟩
    exact a0m (ht1.sub i f hf).1
  rw [hl1,hslen] at this;exact this)
 have hal:a' < σ.length:=(List.getElem?_eq_some_iff.1 (a1f e1)).1
 have hql:q' < σ.length:=(List.getElem?_eq_some_iff.1 (a1f e3)).1
 obtain ⟨a2,b2,q2,ids2,f1,f2,f3,f4,ht2⟩:=ht1.mv hbk hal hql
 rw [a8m e1] at f1
 rw [a8m e2] at f2
 rw [a8m e3] at f3
 cases f1;cases f2;cases f3
 have ht3:Tbl (a0x σ H.length H1 0 H) a b q ids w fo' fr:=ht2.congr fun j hj=>by
  have h4:=f4 j hj
  rw [a8m (e4 j (by rw [← hl];exact hj))] at h4
  exact (Option.some.inj h4).symm
 have hout:∀ c,c ∉ Tbl.blocks a b q ids fo.length → a02 (a0x σ H.length H1 0 H) c = a02 H c:=fun c hc=>c7j (fun hcs=>hc (hsub c hcs))
 have hpl:(a0x σ H.length H1 0 H).length = H.length:=a9d 0 H
 refine ⟨_,σ,a2u hx hf rfl (by simpa [ren,b80] using hgo) hpl,⟨ht3,?_,by rw [hl];exact h.bnd⟩,hpl,hout⟩
 intro c hc
 rw [hl]
 rcases h.lowf c hc with h1|h1
 ·exact .inl h1
 ·by_cases hcb:c ∈ Tbl.blocks a b q ids fo.length
  ·exact .inl hcb
  ·rw [hout c hcb];exact .inr h1
end Go.Ax
/- AxLog: the look at a drawn region's log, the order first. -/
namespace Go.Ax
def a7m (all:List Oper) (j:Nat) (y:LogE):Nat → List LogE → Bool
 | _,[]=>true
 | 0,_ :: _=>false
 | i + 1,x :: rest=>(a46 all i j || !(x.clash y)) && a7m all j y i rest
def b03 (all:List Oper):Nat → List LogE → Bool
 | _,[]=>true
 | 0,_ :: _=>false
 | j + 1,y :: rest=>a7m all j y j rest && b03 all j rest
theorem b5h (all:List Oper) (j:Nat) (y:LogE):∀ (i:Nat) (l:List LogE),a7m all j y i l = logOk.logRow all j y i l
 | _,[]=>by unfold a7m logOk.logRow;rfl
 | 0,_ :: _=>by unfold a7m logOk.logRow;rfl
 | i + 1,x :: rest=>by unfold a7m logOk.logRow;rw [b5h all j y i rest,Bool.or_comm]
theorem b8y (all:List Oper):∀ (i:Nat) (l:List LogE),b03 all i l = logOk all i l
 | _,[]=>by unfold b03 logOk;rfl
 | 0,_ :: _=>by unfold b03 logOk;rfl
 | j + 1,y :: rest=>by unfold b03 logOk;rw [b8y all j rest,b5h]
theorem xs2 {F F1:Frm} {H H1:a05} {Q:b4w} {E:Env} {M:List Fact} {m N:Nat} {g:FuncId} {cur:Nat} {id ops draw} {log:List LogE} (h:a9m E draw N (sem E M) ops.toList ops.toList [] F H = some (F1,H1,log)) (hl:(!draw || b03 ops.toList log.length log) = true) (hq:Q .normal F1 H1):Wp (cx E M m N g cur) (.region id ops draw) F H Q:=
 xs h (by rw [← b8y];exact hl) hq
def c63 (all:List Oper) (j:Nat) (y:LogE):List LogE → Prop
 | []=>True
 | x :: rest=>(a46 all rest.length j = true ∨ x.clash y = false) ∧ c63 all j y rest
def d6f (all:List Oper):List LogE → Prop
 | []=>True
 | y :: rest=>c63 all rest.length y rest ∧ d6f all rest
theorem c2u {all:List Oper}:d6f all []:=by unfold d6f;trivial
theorem b8x {all:List Oper} {y:LogE} {rest:List LogE} (h1:c63 all rest.length y rest) (h2:d6f all rest):d6f all (y :: rest):=by unfold d6f;exact ⟨h1,h2⟩
theorem c2c {all:List Oper} {j:Nat} {y:LogE}:c63 all j y []:=by unfold c63;trivial
theorem c2b {all:List Oper} {j:Nat} {y x:LogE} {rest:List LogE} (h1:a46 all rest.length j = true) (h2:c63 all j y rest):c63 all j y (x :: rest):=by unfold c63;exact ⟨.inl h1,h2⟩
theorem c2d {all:List Oper} {j:Nat} {y x:LogE} {rest:List LogE} (h1:x.clash y = false) (h2:c63 all j y rest):c63 all j y (x :: rest):=by unfold c63;exact ⟨.inr h1,h2⟩
theorem c6v {all:List Oper} {j:Nat} {y:LogE}:∀ {l:List LogE},c63 all j y l → a7m all j y l.length l = true
 | [],_=>by unfold a7m;rfl
 | x :: rest,h=>by
  rw [List.length_cons]
  unfold a7m
  rw [c6v h.2,Bool.and_true]
  rcases h.1 with h1|h1
  ·rw [h1,Bool.true_or]
  ·rw [h1];simp
theorem c85 {all:List Oper}:∀ {l:List LogE},d6f all l → b03 all l.length l = true
 | [],_=>by unfold b03;rfl
 | y :: rest,h=>by
  rw [List.length_cons]
  unfold b03
  rw [c85 h.2,Bool.and_true]
  exact c6v h.1
theorem xs3 {F F1:Frm} {H H1:a05} {Q:b4w} {E:Env} {M:List Fact} {m N:Nat} {g:FuncId} {cur:Nat} {id ops draw} {log:List LogE} (h:a9m E draw N (sem E M) ops.toList ops.toList [] F H = some (F1,H1,log)) (hl:d6f ops.toList log) (hq:Q .normal F1 H1):Wp (cx E M m N g cur) (.region id ops draw) F H Q:=
 xs2 h (by rw [c85 hl];simp) hq
theorem b9s {x y:LogE} (h1:∀ a ∈ x.keys,a ∉ y.needs) (h2:∀ a ∈ x.keys,a ∉ y.keys) (h3:∀ a ∈ x.needs,a ∉ y.keys):x.clash y = false:=by
 have hm:∀ l k:List Nat,(∀ a ∈ l,a ∉ k) → b34 l k = false:=by
  intro l k h
  unfold b34
  rw [List.any_eq_false]
  intro a ha
  have:=h a ha
  rw [Bool.not_eq_true]
  cases hc:a1h k a with
  | false=>rfl
  | true=>exact absurd (a2t.1 hc) this
 unfold LogE.clash
 rw [hm _ _ h1,hm _ _ h2,hm _ _ h3];rfl
end Go.Ax
namespace Go.Ax
end Go.Ax
/- AxTab3: calls that are given a table (and a list in a block). -/
namespace Go.Ax
theorem Tbl.lt {H:a05} {a b q:Nat} {ids:Nat → Nat} {w:Nat} {fo:List (List (BitVec 64))} {fr:Int} (h:Tbl H a b q ids w fo fr):∀ c ∈ Tbl.blocks a b q ids fo.length,c < H.length:=by
 intro c hc
 rw [Tbl.mem_blocks] at hc
 rcases hc with rfl|rfl|rfl|⟨i,hi,rfl⟩
 ·exact a0m h.out
 ·exact a0m h.top
 ·exact a0m h.frm
 ·obtain ⟨f,hf⟩:∃ f,fo[i]? = some f:=⟨_,List.getElem?_eq_getElem hi⟩
  exact a0m (h.sub i f hf).1
theorem d03 {E:Env} {d:Bool} {call:CallF} {g:FuncId} {H:a05} {a b q:Nat} {ids:Nat → Nat} {w:Nat} {fo fo':List (List (BitVec 64))} {fr:Int} (hx:E.ext g = false) (hf:(E.fn g).isSome = true)
 (mk:Nat → Nat → List AV) (hmk:∀ y z,a0e (mk y z) = [y,z]) (hren:∀ (π:Nat → Option Nat) (y z y' z':Nat),π y = some y' → π z = some z' → (mk y z).map (ren π) = mk y' z')
 (ht:Tbl H a b q ids w fo fr) (hn:fo.length ≤ 1000) (hl:fo'.length = fo.length)
 (hrun:∀ (H0:a05) (a' b' q':Nat) (ids':Nat → Nat),TSt H0 H0.length a' b' q' ids' w fo fr → ∃ H1,call g (mk a' q') H0 = some (.tuple [],H1) ∧ H1.length = H0.length ∧ Tbl H1 a' b' q' ids' w fo' fr) :
 ∃ H' σ,a0c E d call (.func (.func g) [] []) (mk a q) H = some (.tuple [],H',σ) ∧ Tbl H' a b q ids w fo' fr ∧ H'.length = H.length ∧ ∀ c,c ∉ Tbl.blocks a b q ids fo.length → a02 H' c = a02 H c:=by
 have hrf:a0e ([] ++ mk a q ++ []) = [a,q]:=by rw [List.nil_append,List.append_nil,hmk]
 have hblt:=ht.lt
 have hb1:∀ c ∈ [a,q],c ∈ Tbl.blocks a b q ids fo.length:=by
  intro c hc;simp only [List.mem_cons,List.not_mem_nil,or_false] at hc 
  rcases hc with rfl|rfl
  ·exact Tbl.mem_blocks.2 (.inl rfl)
  ·exact Tbl.mem_blocks.2 (.inr (.inr (.inl rfl)))
 have hSc:∀ c ∈ Tbl.blocks a b q ids fo.length,∀ d ∈ a0w (a02 H c),d ∈ Tbl.blocks a b q ids fo.length:=by
  intro c hc d hd
  exact ht.closed c hc d hd
 have hcost:=ht.cost
 obtain ⟨σ,hr,hlt,hgo⟩:=b48 (call g) ([] ++ mk a q ++ []) H (Tbl.blocks a b q ids fo.length) (by rw [hrf];exact hb1) hSc (by
  intro c hc
  exact hblt c hc) (by rw [hrf];simp only [List.length_cons,List.length_nil];omega)
 rw [hrf] at hr
 have hsub:∀ c ∈ σ,c ∈ Tbl.blocks a b q ids fo.length:=hr.least (·∈ Tbl.blocks a b q ids fo.length) hb1 (fun c hc d hd=>hSc c hc d hd)
 have hmv:=c2r hr
 obtain ⟨a',b',q',ids',e1,e2,e3,e4,ht'⟩:=ht.mv hmv (hr.start a (by simp)) (hr.start q (by simp))
 have hslen:(a1y H σ (a59 σ)).length = σ.length:=by simp [a1y]
 have hall:∀ c,c < (a1y H σ (a59 σ)).length → c ∈ Tbl.blocks a' b' q' ids' fo.length:=by
  intro j hj
  rw [hslen] at hj
  obtain ⟨c,hc⟩:∃ c,σ[j]? = some c:=⟨_,List.getElem?_eq_getElem hj⟩
  have hpi:a59 σ c = some j:=a3e hr.nodup hc
  have hcb:=hsub c (List.mem_of_getElem? hc)
  rw [Tbl.mem_blocks] at hcb ⊢
  rcases hcb with rfl|rfl|rfl|⟨i,hi,rfl⟩
  ·rw [hpi] at e1;cases e1;exact .inl rfl
  ·rw [hpi] at e2;cases e2;exact .inr (.inl rfl)
  ·rw [hpi] at e3;cases e3;exact .inr (.inr (.inl rfl))
  ·have:=e4 i hi;rw [hpi] at this;cases this;exact .inr (.inr (.inr ⟨i,hi,rfl⟩))
 have hTS:TSt (a1y H σ (a59 σ)) (a1y H σ (a59 σ)).length a' b' q' ids' w fo fr:=⟨ht',fun c hc=>.inl (hall c hc),fun c hc=>ht'.lt c hc⟩
 obtain ⟨H1,hc1,hl1,ht1⟩:=hrun _ a' b' q' ids' hTS
 have hra:([] ++ mk a q ++ []).map (ren (a59 σ)) = mk a' q':=by
  rw [List.nil_append,List.append_nil]
  exact hren _ _ _ _ _ e1 e3
 have hgo:=hgo (.tuple []) H1 (by rw [hra];exact hc1)
 have hd:(H1.drop σ.length) = []:=List.drop_eq_nil_of_le (by rw [hl1,hslen];omega)
 rw [hd,List.map_nil,List.append_nil] at hgo
 have hbk:=c7y (H:=H) (H1:=H1) hr.nodup hlt (fun j=>j < σ.length) (fun j hj=>hj) (by
  intro j hj c hc
  have hjb:=hall j (by rw [hslen];exact hj)
  rw [← hl] at hjb
  have:=ht1.lt c (ht1.closed j hjb c hc)
  rw [hl1,hslen] at this;exact this)
 have hal:a' < σ.length:=(List.getElem?_eq_some_iff.1 (a1f e1)).1
 have hql:q' < σ.length:=(List.getElem?_eq_some_iff.1 (a1f e3)).1
 obtain ⟨a2,b2,q2,ids2,f1,f2,f3,f4,ht2⟩:=ht1.mv hbk hal hql
 rw [a8m e1] at f1
 rw [a8m e2] at f2
 rw [a8m e3] at f3
 cases f1;cases f2;cases f3
 have ht3:Tbl (a0x σ H.length H1 0 H) a b q ids w fo' fr:=ht2.congr fun j hj=>by
  have h4:=f4 j hj
  rw [a8m (e4 j (by rw [← hl];exact hj))] at h4
  exact (Option.some.inj h4).symm
 have hpl:(a0x σ H.length H1 0 H).length = H.length:=a9d 0 H
 refine ⟨_,σ,a2u hx hf rfl (by simpa [ren,b80] using hgo) hpl,ht3,hpl,fun c hc=>c7j (fun hcs=>hc (hsub c hcs))⟩
end Go.Ax
/- AxTab4: a table that is being made; heads of the loops that make and fill it. -/
namespace Go.Ax
structure Tb0 (H:a05) (a b:Nat) (ids:Nat → Nat) (w n i:Nat):Prop where
 out:a02 H a = some (.row 1 [[.slice b 0 n (some n)]])
 top:a02 H b = some (.row 1 ((List.range n).map fun j=>if j < i then [AV.slice (ids j) 0 w (some w)] else [.nilslice]))
 sub:∀ j,j < i → a02 H (ids j) = some (.row 1 (List.replicate w (b4i 0))) ∧ ids j ≠ a ∧ ids j ≠ b
 ab:a ≠ b
 inj:∀ j k,j < i → k < i → ids j = ids k → j = k
section
variable {H H1:a05} {R:Nat → Prop} {π:Nat → Option Nat} {a b:Nat} {ids:Nat → Nat} {w n i:Nat}
def Tb0.blocks (a b:Nat) (ids:Nat → Nat) (i:Nat):List Nat:=a :: b :: (List.range i).map ids
theorem Tb0.mem_blocks {c:Nat}:c ∈ Tb0.blocks a b ids i ↔ c = a ∨ c = b ∨ ∃ j,j < i ∧ c = ids j:=by
 unfold Tb0.blocks
 simp only [List.mem_cons,List.mem_map,List.mem_range]
 constructor
 ·rintro (h|h|⟨j,hj,rfl⟩)
  ·exact .inl h
  ·exact .inr (.inl h)
  ·exact .inr (.inr ⟨j,hj,rfl⟩)
 ·rintro (h|h|⟨j,hj,rfl⟩)
  ·exact .inl h
  ·exact .inr (.inl h)
  ·exact .inr (.inr ⟨j,hj,rfl⟩)
theorem Tb0.top_refs (h:Tb0 H a b ids w n i) (hin:i ≤ n) {c:Nat}:c ∈ a0w (a02 H b) ↔ ∃ j,j < i ∧ c = ids j:=by
 rw [h.top]
 show c ∈ ((List.range n).map fun j=>if j < i then [AV.slice (ids j) 0 w (some w)] else [.nilslice]).flatMap a0e ↔ _
 simp only [List.mem_flatMap,List.mem_map,List.mem_range]
 constructor
 ·rintro ⟨r,⟨j,hj,rfl⟩,hc⟩
  split at hc
  ·rename_i hji;exact ⟨j,hji,by simpa [a0e,refs] using hc⟩
  ·simp [a0e,refs] at hc
 ·rintro ⟨j,hj,rfl⟩
  exact ⟨_,⟨j,by omega,rfl⟩,by simp [hj,a0e,refs]⟩
theorem Tb0.closed (h:Tb0 H a b ids w n i) (hin:i ≤ n):∀ c ∈ Tb0.blocks a b ids i,∀ d ∈ a0w (a02 H c),d ∈ Tb0.blocks a b ids i:=by
 intro c hc d hd
 rw [Tb0.mem_blocks] at hc ⊢
 rcases hc with rfl|rfl|⟨j,hj,rfl⟩
 ·rw [h.out] at hd
  simp [a0w,a0e,refs] at hd
  exact .inr (.inl hd)
 ·obtain ⟨j,hj,rfl⟩:=(h.top_refs hin).1 hd
  exact .inr (.inr ⟨j,hj,rfl⟩)
 ·rw [(h.sub j hj).1,a0u (FlatR.replicate rfl)] at hd
  simp at hd
theorem Tb0.cost (h:Tb0 H a b ids w n i):((Tb0.blocks a b ids i).map fun c=>(a0w (a02 H c)).length).sum ≤ n + 1:=by
 unfold Tb0.blocks
 have e1:(a0w (a02 H a)).length = 1:=by rw [h.out];rfl
 have e3:(a0w (a02 H b)).length ≤ n:=by
  rw [h.top]
  have hlen:∀ l:List Nat,((l.map fun j=>if j < i then [AV.slice (ids j) 0 w (some w)] else [.nilslice]).flatMap a0e).length ≤ l.length:=by
   intro l;induction l with
   | nil=>exact Nat.le_refl _
   | cons x l ih=>
    simp only [List.map_cons,List.flatMap_cons,List.length_append,List.length_cons]
    have:(a0e (if x < i then [AV.slice (ids x) 0 w (some w)] else [AV.nilslice])).length ≤ 1:=by split<;>simp [a0e,refs]
    omega
  have:=hlen (List.range n)
  rw [List.length_range] at this
  exact this
 have e4:(((List.range i).map ids).map fun c=>(a0w (a02 H c)).length).sum = 0:=by
  refine a9q _ ?_
  intro c hc
  obtain ⟨j,hj,rfl⟩:=List.mem_map.1 hc
  rw [(h.sub j (by simpa using hj)).1];exact a0u (FlatR.replicate rfl)
 simp only [List.map_cons,List.sum_cons,e1,e4]
 omega
theorem Tb0.mv (h:Tb0 H a b ids w n i) (hin:i ≤ n) (hm:Mv H R π H1) (ha:R a):∃ a' b' ids',π a = some a' ∧ Tb0 H1 a' b' ids' w n i:=by
 have hb:R b:=hm.closed a ha b (by rw [h.out];simp [a0w,a0e,refs])
 have hid:∀ j,j < i → R (ids j):=fun j hj=>hm.closed b hb _ ((h.top_refs hin).2 ⟨j,hj,rfl⟩)
 obtain ⟨a',ea⟩:=hm.here a ha
 obtain ⟨b',eb⟩:=hm.here b hb
 have ei:∀ j,j < i → π (ids j) = some ((π (ids j)).getD 0):=fun j hj=>by obtain ⟨c,hc⟩:=hm.here _ (hid j hj);rw [hc];rfl
 refine ⟨a',b',fun j=>(π (ids j)).getD 0,ea,?_,?_,?_,?_,?_⟩
 ·rw [hm.heap a a' ha ea,h.out]
  simp only [Option.map_some,a0v,List.map_cons,List.map_nil,Ax.ren,eb]
 ·rw [hm.heap b b' hb eb,h.top]
  simp only [Option.map_some,a0v,List.map_map]
  congr 2
  refine List.map_congr_left fun j hj=>?_
  simp only [Function.comp]
  by_cases hji:j < i
  ·have:=ei j hji
   rw [if_pos hji,if_pos hji]
   simp only [List.map_cons,List.map_nil,Ax.ren]
   rw [this];rfl
  ·rw [if_neg hji,if_neg hji];rfl
 ·intro j hj
  obtain ⟨g1,g2,g3⟩:=h.sub j hj
  have e:=ei j hj
  refine ⟨?_,?_,?_⟩
  ·rw [hm.heap _ _ (hid j hj) e,g1]
   simp only [Option.map_some,a0v,a04 π (FlatR.replicate (show a0e (b4i 0) = [] from rfl))]
  ·intro he;rw [he] at e;exact g2 (hm.inj _ _ _ e ea)
  ·intro he;rw [he] at e;exact g3 (hm.inj _ _ _ e eb)
 ·intro e;subst e;exact h.ab (hm.inj _ _ _ ea eb)
 ·intro j k hj hk e
  have e1:=ei j hj
  have e2:=ei k hk
  rw [e] at e1
  exact h.inj j k hj hk (hm.inj _ _ _ e1 e2)
theorem Tb0.same (h:Tb0 H a b ids w n i) (h1:∀ c,(c = a ∨ c = b ∨ ∃ j,j < i ∧ c = ids j) → a02 H1 c = a02 H c):Tb0 H1 a b ids w n i:=
 ⟨by rw [h1 a (.inl rfl),h.out],by rw [h1 b (.inr (.inl rfl)),h.top],fun j hj=>by
  obtain ⟨g1,g2⟩:=h.sub j hj
  exact ⟨by rw [h1 (ids j) (.inr (.inr ⟨j,hj,rfl⟩)),g1],g2⟩,h.ab,h.inj⟩
theorem Tb0.add (h:Tb0 H a b ids w n i) (hi:i < n):Tb0 (H.set b (some (.row 1 (((List.range n).map fun j=>if j < i then [AV.slice (ids j) 0 w (some w)] else [.nilslice]).set i [.slice H.length 0 w (some w)]))) ++ [some (.row 1 (List.replicate w (b4i 0)))]) a b (fun j=>if j = i then H.length else ids j) w n (i + 1):=by
 have hal:=a0m h.out
 have hbl:=a0m h.top
 refine ⟨?_,?_,?_,h.ab,?_⟩
 ·rw [a54 hal,if_neg (Ne.symm h.ab),h.out]
 ·rw [a54 hbl,if_pos rfl]
  congr 2
  apply List.ext_getElem?
  intro j
  rw [List.getElem?_set]
  by_cases hij:i = j
  ·subst hij
   simp [hi]
  ·rw [if_neg hij]
   by_cases hjn:j < n
   ·simp only [List.getElem?_map,List.getElem?_range hjn,Option.map_some,if_neg (Ne.symm hij)]
    congr 1
    by_cases h2:j < i
    ·rw [if_pos h2,if_pos (by omega)]
    ·rw [if_neg h2,if_neg (by omega)]
   ·rw [List.getElem?_eq_none (by simp;omega),List.getElem?_eq_none (by simp;omega)]
 ·intro j hj
  by_cases hji:j = i
  ·subst hji
   simp only [if_true]
   refine ⟨?_,by omega,by omega⟩
   have:=b3l (H:=H) (L:=[some (AObj.row 1 (List.replicate w (b4i 0)))]) (a:=b) (o:=some (.row 1 (((List.range n).map fun j'=>if j' < j then [AV.slice (ids j') 0 w (some w)] else [.nilslice]).set j [.slice H.length 0 w (some w)]))) 0
   rw [Nat.add_zero] at this
   rw [this];rfl
  ·simp only [if_neg hji]
   obtain ⟨g1,g2,g3⟩:=h.sub j (by omega)
   refine ⟨?_,g2,g3⟩
   rw [a54 (a0m g1),if_neg (Ne.symm g3),g1]
 ·intro j k hj hk e
  by_cases h1:j = i<;>by_cases h2:k = i
  ·omega
  ·simp only [h1,if_true,if_neg h2] at e
   have:=a0m (h.sub k (by omega)).1
   omega
  ·simp only [h2,if_true,if_neg h1] at e
   have:=a0m (h.sub j (by omega)).1
   omega
  ·simp only [if_neg h1,if_neg h2] at e
   exact h.inj j k (by omega) (by omega) e
theorem Tb0.done (h:Tb0 H a b ids w n n) {q:Nat} {fr:Int} (hq:a02 H q = some (.row 1 [[.int .i64 fr]])) (hqa:q ≠ a) (hqb:q ≠ b) (hqi:∀ j,j < n → ids j ≠ q):Tbl H a b q ids w (List.replicate n (List.replicate w 0#64)) fr:=by
 refine ⟨by rw [List.length_replicate];exact h.out,?_,?_,hq,h.ab,Ne.symm hqa,Ne.symm hqb,fun j k hj hk=>by rw [List.length_replicate] at hj hk;exact h.inj j k hj hk⟩
 ·rw [List.length_replicate,h.top]
  congr 2
  refine List.map_congr_left fun j hj=>?_
  rw [if_pos (by simpa using hj)]
 ·intro j f hf
  rw [List.getElem?_replicate] at hf
  split at hf
  case isFalse=>cases hf
  rename_i hj
  cases hf
  obtain ⟨g1,g2,g3⟩:=h.sub j hj
  exact ⟨by rw [g1,List.map_replicate];rfl,g2,g3,hqi j hj,List.length_replicate⟩
end
theorem d5x {m:Nat} {keep:List Nat} {F:Frm} {H:a05} {P:Frm → a05 → Prop} (hm:m ≤ H.length) (S:List Nat) (h1:∀ b ∈ a0e ((a1q keep F).map (·.2)),b ∈ S) (h2:∀ b,b < m → a0w (a02 H b) = []) (h3:∀ b ∈ S,∀ c ∈ a0w (a02 H b),c ∈ S)
 (hc:(S.map fun b=>(a0w (a02 H b)).length).sum ≤ 100000) (hl:(a0e ((a1q keep F).map (·.2))).length ≤ 100)
 (hP:∀ (R:Nat → Prop) (π:Nat → Option Nat) (H1:a05),Gc m (a1q keep F) H R π H1 → m ≤ H1.length → P (c0c π (a1q keep F)) H1):∃ F1 H1,gcD m keep F H = some (F1,H1) ∧ P F1 H1:=by
 have hlow:((H.take m).flatMap a0w).length = 0:=by
  rw [c1d H m hm]
  have:∀ l:List Nat,(∀ c ∈ l,a0w (a02 H c) = []) → (l.map fun c=>(a0w (a02 H c)).length).sum = 0:=a9q
  exact this _ (fun c hc=>h2 c (by simpa using hc))
 obtain ⟨R,π,H1,g1,g2,g3⟩:=c34 (m:=m) (keep:=keep) (F:=F) (H:=H) hm S h1 (fun b hb c hc=>by rw [h2 b hb] at hc;simp at hc) h3 (by omega)
 exact ⟨_,H1,g1,hP R π H1 g2 g3⟩
end Go.Ax
/- AxTab5: a table's number in another cell; a table that is given back. -/
namespace Go.Ax
section
variable {H:a05} {a b q:Nat} {ids:Nat → Nat} {w:Nat} {fo:List (List (BitVec 64))} {fr:Int}
theorem Tbl.newq (h:Tbl H a b q ids w fo fr) (fr':Int):Tbl (H ++ [some (.row 1 [[.int .i64 fr']])]) a b H.length ids w fo fr':=by
 have hl:=h.lt
 have hne:∀ c ∈ Tbl.blocks a b q ids fo.length,c ≠ H.length:=fun c hc e=>by have:=hl c hc;omega
 have hm:=h.more (L:=[some (.row 1 [[.int .i64 fr']])])
 refine ⟨hm.out,hm.top,?_,a55,h.ab,hne a (Tbl.mem_blocks.2 (.inl rfl)),hne b (Tbl.mem_blocks.2 (.inr (.inl rfl))),h.inj⟩
 intro j f hf
 obtain ⟨g1,g2,g3,g4,g5⟩:=hm.sub j f hf
 exact ⟨g1,g2,g3,hne _ (Tbl.mem_blocks.2 (.inr (.inr (.inr ⟨j,(List.getElem?_eq_some_iff.1 hf).1,rfl⟩)))),g5⟩
theorem Tb0.more {n i:Nat} {L:a05} (h:Tb0 H a b ids w n i):Tb0 (H ++ L) a b ids w n i:=by
 refine h.same fun c hc=>a5j (eq_true ?_)
 rcases hc with rfl|rfl|⟨j,hj,rfl⟩
 ·exact a0m h.out
 ·exact a0m h.top
 ·exact a0m (h.sub j hj).1
theorem Tb0.lt {n i:Nat} (h:Tb0 H a b ids w n i):a < H.length ∧ b < H.length ∧ ∀ j,j < i → ids j < H.length:=⟨a0m h.out,a0m h.top,fun j hj=>a0m (h.sub j hj).1⟩
theorem Tbl.other (h:Tbl H a b q ids w fo fr) {c k:Nat} {rows:List (List AV)} (hc:a02 H c = some (.row k rows)) (hk:k ≠ 1):c ∉ Tbl.blocks a b q ids fo.length:=by
 rw [Tbl.mem_blocks]
 rintro (rfl|rfl|rfl|⟨j,hj,rfl⟩)
 ·rw [h.out] at hc;cases hc;exact hk rfl
 ·rw [h.top] at hc;cases hc;exact hk rfl
 ·rw [h.frm] at hc;cases hc;exact hk rfl
 ·obtain ⟨f,hf⟩:∃ f,fo[j]? = some f:=⟨_,List.getElem?_eq_getElem hj⟩
  rw [(h.sub j f hf).1] at hc;cases hc;exact hk rfl
theorem c37 {m:Nat} {d:AV → Option AV}:∀ (rows:List (List AV)) (out:List (List AV)),rows.length = out.length → (∀ (j:Nat) r o,rows[j]? = some r → out[j]? = some o → a68 m false d r = some o) → a7z m d rows = some out
 | [],out,hl,_=>by cases out with|nil=>rfl|cons=>simp at hl
 | r :: rows,[],hl,_=>by simp at hl
 | r :: rows,o :: out,hl,hh=>by
  rw [b0c,hh 0 r o rfl rfl]
  simp only [a0i]
  rw [c37 rows out (by simpa using hl) (fun j r o hr ho=>hh (j + 1) r o (by simpa using hr) (by simpa using ho))]
theorem Tbl.frz (h:Tbl H a b q ids w fo fr) {m:Nat} (hb:m ≤ b) (hi:∀ j,j < fo.length → m ≤ ids j):a4z m true (a94 (a02 H) m 12) (.slice b 0 fo.length (some fo.length)) = some (.islice (fo.map fun f=>[.islice (f.map b4i) (some w)]) (some fo.length)):=by
 rw [a8g,decide_eq_false (by omega:¬ b < m),cond_false,a76 (eq_true (by omega:0 < 12)),h.top]
 simp only [a80,a0i,List.length_map,List.length_range,List.drop_zero,Nat.zero_add]
 rw [decide_eq_true (Nat.le_refl _),cond_true,List.take_of_length_le (by simp)]
 rw [c37 _ (fo.map fun f=>[.islice (f.map b4i) (some w)]) (by simp)]
 intro j r o hr ho
 rw [List.getElem?_map] at ho hr
 cases hf:fo[j]? with
 | none=>rw [hf] at ho;cases ho
 | some f=>
  rw [hf] at ho
  have hj:j < fo.length:=(List.getElem?_eq_some_iff.1 hf).1
  rw [List.getElem?_range hj] at hr
  cases ho;cases hr
  obtain ⟨g1,_,_,_,g5⟩:=h.sub j f hf
  have:=hi j hj
  rw [a8h,b7d,a8g,decide_eq_false (by omega:¬ ids j < m),cond_false,a76 (eq_true (by omega:0 < 11)),g1]
  simp only [a80,a0i,List.drop_zero,Nat.zero_add,List.length_map]
  rw [decide_eq_true (by omega),cond_true,List.take_of_length_le (by simp;omega),a0r _ _ (b7f f)]
end
end Go.Ax
/- AxLow: a loop's head over blocks that all stood before the call and refer to nothing. -/
namespace Go.Ax
theorem d3j {H H1:a05} (hl:H1.length = H.length) (h:∀ b,b < H.length → a02 H1 b = a02 H b):H1 = H:=by
 apply List.ext_getElem hl
 intro b h1 h2
 have:=h b h2
 unfold a02 at this
 rw [List.getElem?_eq_getElem h1,List.getElem?_eq_getElem h2] at this
 exact this
theorem e3i {keep:List Nat} {F F':Frm} {H:a05} (hk:a1q keep F = F') (hF:∀ b ∈ a0e (F'.map (·.2)),b < H.length) (hn:(a0e (F'.map (·.2))).length < 1000) (hH:∀ b,a0w (a02 H b) = []):gcD H.length keep F H = some (F',H):=by
 subst hk
 have hsum:((List.range H.length).map fun b=>(a0w (a02 H b)).length).sum = 0:=by
  have:((List.range H.length).map fun b=>(a0w (a02 H b)).length) = List.replicate H.length 0:=by
   rw [← List.length_range (n:=H.length),← List.map_const',List.length_range]
   exact List.map_congr_left fun b _=>by rw [hH];rfl
  rw [this];simp
 have hfl:(H.take H.length).flatMap a0w = []:=by
  rw [List.take_length,List.flatMap_eq_nil_iff]
  intro o ho
  obtain ⟨b,hb⟩:=List.mem_iff_getElem?.1 ho
  have:=hH b
  unfold a02 at this
  rw [hb] at this
  exact this
 obtain ⟨R,π,H1,h1,hg,hl⟩:=c34 (m:=H.length) (keep:=keep) (F:=F) (H:=H) (Nat.le_refl _) (List.range H.length) (fun b hb=>List.mem_range.2 (hF b hb)) (fun b _ c hc=>by rw [hH] at hc;simp at hc) (fun b _ c hc=>by rw [hH] at hc;simp at hc) (by rw [hsum,hfl];simp only [List.length_nil];omega)
 have hlen:H1.length = H.length:=by
  have:=hg.len [] (fun b hR hb=>by
   have:=hg.least (fun b=>b < H.length) hF (fun b _ c hc=>by rw [hH] at hc;simp at hc) (fun b _ c hc=>by rw [hH] at hc;simp at hc) b hR
   omega)
  simp only [List.length_nil,Nat.add_zero] at this
  omega
 rw [h1,b0z hg.low _ hF]
 have:H1 = H:=d3j hlen fun b hb=>by
  rw [hg.heap b b (hg.low b hb)]
  cases ho:a02 H b with
  | none=>rfl
  | some o=>
   have h2:=hH b
   rw [ho] at h2
   simp only [Option.map_some]
   rw [b0y hg.low o (fun c hc=>by rw [h2] at hc;simp at hc)]
 rw [this]
end Go.Ax
