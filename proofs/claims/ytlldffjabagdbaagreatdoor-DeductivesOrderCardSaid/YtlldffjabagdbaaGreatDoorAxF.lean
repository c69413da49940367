/- AxSup: closed runs over facts of calls, a6n a given fact. -/
import Derived.Test.YtlldffjabagdbaaGreatDoorAxD
import Derived.Test.YtlldffjabagdbaaGreatDoorAxC
import Derived.Test.YtlldffjabagdbaaGreatDoorAxE
set_option linter.unusedSimpArgs false
set_option linter.unusedVariables false
namespace Go.Ax
def a0b (E:Env) (x:Fact):Prop:=sem E [] x.g x.args [] = some (x.v,[])
theorem c3e {E:Env} {g:FuncId} {args:List AV} {v:AV}:∀ {M:List Fact},(∀ x ∈ M,a0b E x) → e13 M g args = some v → sem E [] g args [] = some (v,[])
 | [],_,h=>by simp [e13] at h
 | x :: r,hM,h=>by
  simp only [e13,cond_eq_ite] at h
  split at h
  ·rename_i hc
   simp only [Bool.and_eq_true,Nat.beq_eq] at hc
   cases h
   have:=hM x (by simp)
   obtain ⟨g',a',v'⟩:=x
   simp only at hc this
   have h1:=hc.1
   have h2:=b6t _ _ hc.2
   subst h1;subst h2
   exact this
  ·exact c3e (fun x hx=>hM x (by simp [hx])) h
theorem b3j {E:Env} {c:CallF} (hc:CallF.le c (sem E [])) (lf:Nat):CallF.le (b17 E c lf) (sem E []):=fun g args H r h=>
 c1r (fun _ h=>by cases h) lf (b16 hc (Nat.le_refl lf) h)
theorem b43 {E:Env} {M:List Fact} (hM:∀ x ∈ M,a0b E x):∀ n,CallF.le (c84 E M n) (sem E [])
 | 0=>fun g args H r h=>by simp [c84] at h
 | n + 1=>fun g args H r h=>by
  have h:e5w M (b17 E (c84 E M n) (n + 1)) g args H = some r:=h
  unfold e5w at h
  split at h
  ·split at h
   ·rename_i v hs
    cases h
    exact c3e hM hs
   ·exact b3j (b43 hM n) _ _ _ _ _ h
  ·exact b3j (b43 hM n) _ _ _ _ _ h
theorem a0l {E:Env} {M:List Fact} (hM:∀ x ∈ M,a0b E x) (n:Nat) {g:Nat} {args:List AV} {v:AV} (h:b17 E (c84 E M n) n g args [] = some (v,[])):a0b E ⟨g,args,v⟩:=
 b3j (b43 hM n) n _ _ _ _ h
theorem a2l {E:Env}:∀ x ∈ ([]:List Fact),a0b E x:=by simp
theorem a07 {E:Env} {x:Fact} {M:List Fact} (hx:a0b E x) (hM:∀ x ∈ M,a0b E x):∀ y ∈ x :: M,a0b E y:=by
 intro y hy
 simp only [List.mem_cons] at hy
 rcases hy with rfl|hy
 ·exact hx
 ·exact hM y hy
end Go.Ax
/- AxMelt: calls over flat arguments that return a pointer to a block of their own. -/
namespace Go.Ax
end Go.Ax
/- AxCpy: copy and clear, ar rewrite rules. -/
namespace Go.Ax
section
variable {E:Env} {draw:Bool} {call:CallF} {F:Frm} {H:a03} {h:FHeap}
end
section
variable {E:Env} {t:TypeId} {c:Bool} {x y:BitVec 64}
end
section
variable {E:Env} {h:FHeap} {t:TypeId}
end
end Go.Ax
/- AxFz: a loop that freezes at its end, as rewrite rules. -/
namespace Go.Ax
@[go_sem] theorem e6j (m:Nat) (H:a03) (v:AV):e03 m H v = (a3f m true (a5c (a01 H) m 12) v).getD .junk:=by
 unfold e03;cases a3f m true (a5c (a01 H) m 12) v<;>rfl
@[go_sem] theorem e44 (m:Nat) (top:Bool) (d:AV → Option AV):a3f m top d .junk = some .junk:=by rfl
@[go_sem] theorem e21 (m:Nat) (H:a03) (s:Nat) (v:AV) (F:Frm):c2k m H ((s,v) :: F) = (s,e03 m H v) :: c2k m H F:=by rfl
@[go_sem] theorem e47 (m:Nat) (H:a03):c2k m H [] = []:=by rfl
@[go_sem] theorem e8f (H:a03):c2j 0 H = []:=by simp [c2j]
@[go_sem] theorem e02 {α:Type} (a b:α):(some a).getD b = a:=by rfl
@[go_sem] theorem e1w (s:Nat):a2g [] s = .junk:=by rfl
@[go_sem] theorem e17:refs .junk = []:=by rfl
theorem e6d (m:Nat) (Q:b04) (e:AExit) (F:Frm) (H:a03):fz m Q e F H = Q e (c2k m H F) (c2j m H):=by rfl
theorem d18 {E:Env} {M:List Fact} {m N:Nat} {g:FuncId} {cur:Nat} {keep:List Nat} {b:Code} {F:Frm} {H:a03} {Q:b04} (hk:E.keep g cur = keep) (hz:d12 keep = true) {σ:Type} (Fs:σ → Frm) (Hs:σ → a03) (meas:σ → Nat) (Inv:σ → Prop) (s0:σ) (h0:gcD m keep F H = some (Fs s0,Hs s0)) (hi:Inv s0)
 (h:∀ s,Inv s → Wp (cx E M m N g cur) b (Fs s) (Hs s) (lp m keep Fs Hs meas Inv (meas s) (fz m Q))) (hx:a71 b = none:=by rfl):Wp (cx E M m N g cur) (.loop b) F H Q:=by
 refine e0m hk hz (fun n F1 H1=>∃ s,F1 = Fs s ∧ H1 = Hs s ∧ n = meas s ∧ Inv s) (meas s0) ⟨_,_,h0,s0,rfl,rfl,rfl,hi⟩ ?_ hx
 rintro n F1 H1 ⟨s,rfl,rfl,rfl,hs⟩
 refine c6p (h s hs) ?_
 intro e F' H' h2
 cases e with
 | normal=>obtain ⟨s',g1,g2,g3⟩:=h2;exact ⟨_,_,_,g1,g2,s',rfl,rfl,rfl,g3⟩
 | exit id=>exact h2
 | ret=>exact h2
end Go.Ax
/- AxMl: a loop over a set of numbers: as a condition on its end. -/
namespace Go.Ax
theorem b5z:∀ H:a03,b9h H H = true
 | []=>rfl
 | a :: H=>by simp only [b9h,b5y,b5z H,Bool.and_self]
theorem c4z (r:R3):c50 (some r) r = true:=by
 obtain ⟨e,F,H⟩:=r
 simp only [c50,b14,b5z,Bool.and_self,Bool.and_true]
 cases e<;>simp [d6l]
def AExit.isN:AExit → Bool
 | .normal=>true
 | _=>false
def mlp (m:Nat) (keep:List Nat) (F2:Frm) (H2:a03):b04:=fun e F H=>match e with|.normal=>gcD m keep F H = some (F2,H2)|_=>False
def mle (it:Nat) (e0:AExit) (F0:Frm) (H0:a03):b04:=fun e F H=>e = e0 ∧ F = F0 ∧ dropIt F H it = H0
def Wq (x:Cx) (ops ors:List Oper) (rest:Code) (nx:Nat) (v:AV) (F:Frm) (H:a03) (Q:b04):Prop:=
 ∃ F4 H4 log,a82 x.E false x.N (sem x.E x.M) ops ors [⟨[],[]⟩] ((nx,v) :: F) H = some (F4,H4,log) ∧ Wp x rest F4 H4 Q
theorem xq {x:Cx} {ops ors:List Oper} {rest:Code} {nx:Nat} {v:AV} {F F4:Frm} {H H4:a03} {Q:b04} {log:List LogE} (h:a82 x.E false x.N (sem x.E x.M) ops ors [⟨[],[]⟩] ((nx,v) :: F) H = some (F4,H4,log)) (k:Wp x rest F4 H4 Q):Wq x ops ors rest nx v F H Q:=⟨_,_,_,h,k⟩
section
variable {E:Env} {M:List Fact} {m N:Nat} {g:FuncId} {cur:Nat} {keep:List Nat} {id:Nat} {ops:Array Oper} {it nx:Nat} {ors:List Oper} {rest:Code}
noncomputable def c2z (E:Env) (M:List Fact) (m N:Nat) (g:FuncId) (cur:Nat) (lf:Nat) (b:Code):Frm → a03 → (AExit → Frm → a03 → Option R3) → Option R3:=fun F H k=>a3m E m N (E.keep g) (sem E M) lf cur b F H k
theorem c3a (hnx:c6l ops.toList = some (it,nx,ors)) (hN:Nat.blt nx N = true) {ks acc:List Int} {ib:Nat} {act:Option Int} {F F1:Frm} {H H1 H3:a03} {v:AV} {Q:b04} {arm:Option (Option Int)}
 (hg:gcD m (E.keep g cur) F H = some (F1,H1)) (hit:a2g F1 it = .ptr ib 0 0) (hob:a01 H1 ib = some (.miter ks acc arm))
 (hv:b7x F1 (H1.set ib (some (.miter ks acc (some act)))) it = some (v,H3)) (hw:Wq (cx E M m N g cur) ops.toList ors rest nx v F1 H3 Q) :
 ∃ e F' H',Q e F' H' ∧ ∃ n0,∀ lf,n0 ≤ lf → a9g m it (E.keep g cur) ks acc (c2z E M m N g cur lf (.seq (.region id ops false) rest)) act F H = some (e,F',H'):=by
 obtain ⟨F4,H4,log,h1,h2⟩:=hw
 obtain ⟨e,F',H',⟨n0,h3⟩,h4⟩:=c4l _ h2
 refine ⟨e,F',H',h4,n0,fun lf hl=>?_⟩
 unfold a9g
 rw [hg]
 have ha:e4h ks acc act F1 H1 it = some (H1.set ib (some (.miter ks acc (some act)))):=by
  unfold e4h
  rw [hit]
  simp only [hob,decide_true,Bool.and_self,cond_true]
 simp only [ha,c2z]
 unfold a3m
 unfold a3m
 rw [hnx]
 simp only [hN,Bool.not_true,Bool.or_self,cond_false,hv]
 rw [b3h]
 have h1':a82 E false N (sem E M) ops.toList ors [⟨[],[]⟩] (a3l F1 (some nx) v) H3 = some (F4,H4,log):=h1
 rw [h1']
 simp only [Bool.not_false,Bool.true_or,cond_true]
 exact h3 lf hl R3 _
theorem c80 {ks acc:List Int} {ib:Nat} {i:Int} {F1:Frm} {H1:a03} {arm:Option (Option Int)} (hit:a2g F1 it = .ptr ib 0 0) (hob:a01 H1 ib = some (.miter ks acc arm)) :
 b7x F1 (H1.set ib (some (.miter ks acc (some (some i))))) it = some (.tuple [.bool true,.int .i64 i,.bool true],H1.set ib (some (.miter ks (acc ++ [i]) none))):=by
 unfold b7x
 rw [hit]
 simp only [a7b,b0g hob,and_self,if_true,List.set_set]
theorem c81 {ks acc:List Int} {ib:Nat} {F1:Frm} {H1:a03} {arm:Option (Option Int)} (hit:a2g F1 it = .ptr ib 0 0) (hob:a01 H1 ib = some (.miter ks acc arm)) :
 b7x F1 (H1.set ib (some (.miter ks acc (some none)))) it = some (.tuple [.bool false],H1.set ib (some (.miter ks acc none))):=by
 unfold b7x
 rw [hit]
 simp only [a7b,b0g hob,and_self,if_true,List.set_set]
theorem c1d {α:Type} {P:Nat → α → Prop}:∀ (L:List α),(∀ o ∈ L,∃ n0,∀ lf,n0 ≤ lf → P lf o) → ∃ n0,∀ lf,n0 ≤ lf → ∀ o ∈ L,P lf o
 | [],_=>⟨0,fun _ _ _ h=>by cases h⟩
 | a :: L,h=>by
  obtain ⟨n1,h1⟩:=h a (by simp)
  obtain ⟨n2,h2⟩:=c1d L fun o ho=>h o (by simp [ho])
  refine ⟨max n1 n2,fun lf hl o ho=>?_⟩
  rcases List.mem_cons.1 ho with rfl|ho
  ·exact h1 lf (by omega)
  ·exact h2 lf (by omega) o ho
theorem c6q {F:Frm} {H:a03} {Q:b04} (hk:E.keep g cur = keep) (ks:List Int) (Fs:List Int → Frm) (Hs:List Int → a03) (ib:Nat) (e0:AExit) (F0:Frm) (H0:a03) (hks:ks.Nodup) (h0:gcD m keep F H = some (Fs [],Hs []))
 (hob:∀ V,V.Nodup → (∀ x ∈ V,x ∈ ks) → a2g (Fs V) it = .ptr ib 0 0 ∧ ∃ arm,a01 (Hs V) ib = some (.miter ks V arm))
 (hstep:∀ V i,V.Nodup → (∀ x ∈ V,x ∈ ks) → i ∈ ks → i ∉ V → Wq (cx E M m N g cur) ops.toList ors rest nx (.tuple [.bool true,.int .i64 i,.bool true]) (Fs V) ((Hs V).set ib (some (.miter ks (V ++ [i]) none))) (mlp m keep (Fs (V ++ [i])) (Hs (V ++ [i]))))
 (hend:∀ V,V.Perm ks → Wq (cx E M m N g cur) ops.toList ors rest nx (.tuple [.bool false]) (Fs V) ((Hs V).set ib (some (.miter ks V none))) (mle it e0 F0 H0))
 (hq:Q e0 F0 H0) (he:e0.isN = false:=by rfl) (hnx:c6l ops.toList = some (it,nx,ors):=by rfl) (hN:Nat.blt nx N = true:=by rfl):Wp (cx E M m N g cur) (.loop (.seq (.region id ops false) rest)) F H Q:=by
 subst hk
 have key:∀ (o acc:List Int) (F':Frm) (H':a03),(acc ++ o).Perm ks → gcD m (E.keep g cur) F' H' = some (Fs acc,Hs acc) →
  ∃ n0,∀ lf,n0 ≤ lf → a3j m it (E.keep g cur) ks (c2z E M m N g cur lf (.seq (.region id ops false) rest)) acc o F' H' = some (e0,F0,H0):=by
  intro o
  induction o with
  | nil=>
   intro acc F' H' hp hg
   rw [List.append_nil] at hp
   obtain ⟨hit,arm,hh⟩:=hob acc (hp.nodup_iff.2 hks) (fun x hx=>hp.mem_iff.1 hx)
   obtain ⟨e,F2,H2,⟨h1,h2,h3⟩,n0,h4⟩:=c3a (id:=id) (act:=none) hnx hN hg hit hh (c81 hit hh) (hend acc hp)
   refine ⟨n0,fun lf hl=>?_⟩
   unfold a3j
   rw [h4 lf hl]
   subst h1 h2 h3
   cases e with
   | normal=>cases he
   | exit i=>rfl
   | ret=>rfl
  | cons i o ih=>
   intro acc F' H' hp hg
   have hnd:=hp.nodup_iff.2 hks
   rw [List.nodup_append] at hnd
   have hsub:∀ x ∈ acc,x ∈ ks:=fun x hx=>hp.mem_iff.1 (by simp [hx])
   obtain ⟨hit,arm,hh⟩:=hob acc hnd.1 hsub
   obtain ⟨e,F2,H2,h1,n0,h4⟩:=c3a (id:=id) (act:=some i) hnx hN hg hit hh (c80 hit hh) (hstep acc i hnd.1 hsub (hp.mem_iff.1 (by simp)) (fun h=>hnd.2.2 i h i (by simp) rfl))
   cases e with
   | exit id=>exact h1.elim
   | ret=>exact h1.elim
   | normal=>
    obtain ⟨n1,h5⟩:=ih (acc ++ [i]) F2 H2 (by simpa using hp) h1
    refine ⟨max n0 n1,fun lf hl=>?_⟩
    unfold a3j
    rw [h4 lf (by omega)]
    exact h5 lf (by omega)
 obtain ⟨n0,hall⟩:=c1d (a8e ks) (P:=fun lf o=>a3j m it (E.keep g cur) ks (c2z E M m N g cur lf (.seq (.region id ops false) rest)) [] o F H = some (e0,F0,H0)) (fun o ho=>key o [] F H (b3r ho) h0)
 refine ⟨e0,F0,H0,⟨n0,fun lf hl R k=>?_⟩,hq⟩
 have hnl:a71 (.seq (.region id ops false) rest) = some it:=by
  show (c6l ops.toList).map (·.1) = some it
  rw [hnx];rfl
 have hall:=hall lf hl
 show a3m E m N (E.keep g) (sem E M) lf cur (.loop (.seq (.region id ops false) rest)) F H k = _
 unfold a3m
 rw [hnl]
 show b9x m it (E.keep g cur) (c2z E M m N g cur lf (.seq (.region id ops false) rest)) F H k = _
 unfold b9x
 have hso:d6j m it (E.keep g cur) F H = some ks:=by
  obtain ⟨hit,arm,hh⟩:=hob [] List.nodup_nil (by simp)
  unfold d6j
  rw [h0]
  simp only [hit,hh]
 rw [hso]
 simp only
 cases hL:(a8e ks).map fun o=>a3j m it (E.keep g cur) ks (c2z E M m N g cur lf (.seq (.region id ops false) rest)) [] o F H with
 | nil=>
  have:=List.mem_map_of_mem (f:=fun o=>a3j m it (E.keep g cur) ks (c2z E M m N g cur lf (.seq (.region id ops false) rest)) [] o F H) (b1c (List.Perm.refl ks))
  rw [hL] at this;cases this
 | cons x rs=>
  have hx:∀ y ∈ x :: rs,y = some (e0,F0,H0):=by
   intro y hy
   rw [← hL] at hy
   obtain ⟨o,ho,rfl⟩:=List.mem_map.1 hy
   exact hall o ho
  rw [hx x (by simp)]
  have:rs.all (fun x=>c50 x (e0,F0,H0)) = true:=by
   rw [List.all_eq_true]
   intro y hy
   rw [hx y (by simp [hy])];exact c4z _
  simp only [this,cond_true]
end
end Go.Ax
/- AxSetS: sets of numbers, as rewrite rules. -/
namespace Go.Ax
section
variable {E:Env} {h:FHeap} {t:TypeId} {draw:Bool} {call:CallF} {F:Frm} {H:a03}
@[go_sem] theorem e1k:b67 E t = bif a88 E t then .uset [] else .map [] [] [] 0:=by rfl
@[go_sem] theorem d9z (k e:TypeId):b6i (some (.map k e)) = true:=by rfl
/-! lookup -/
def d2e (E:Env) (t:TypeId) (ks:List Int) (o:Bool):AV → Option AV
 | .int .i64 i=>bif a88 E t then some (bif o then .tuple [.bool (ks.contains i),.bool (ks.contains i)] else .bool (ks.contains i)) else none
 | _=>none
@[go_sem] theorem e60 (ks:List Int) (o:Bool) (i:Int):d2e E t ks o (.int .i64 i) = bif a88 E t then some (bif o then .tuple [.bool (ks.contains i),.bool (ks.contains i)] else .bool (ks.contains i)) else none:=by rfl
def f06 (E:Env) (h:FHeap) (t:TypeId) (b:Nat) (k:AV) (o:Bool):Option AObj → Option AV
 | some (.uset ks)=>d2e E t ks o k
 | _=>a30 E h t (.map b) k o
theorem c1b {x k:AV} {o:Bool} (hm:b2i h x = none):a30 E h t x k o = none:=by
 unfold a30
 split
 ·rw [cond_eq_ite];split
  ·rw [hm]
  ·rfl
 ·rfl
@[go_sem] theorem e5z (ks:List Int) (k:AV) (o:Bool):oor (a30 E h t (.iset ks) k o) (b0t E h t (.iset ks) k o) = d2e E t ks o k:=by
 rw [c1b (by rfl)]
 simp only [oor,b0t,b39]
 unfold d2e
 cases k<;>first|rfl|(rename_i kk i;cases kk<;>rfl)
/-! update -/
def e30 (E:Env) (t:TypeId) (b:Nat) (ks:List Int):AV → AV → Option Eff
 | .int .i64 i,.bool q=>bif a88 E t && q then some (.set b (.uset (bif ks.contains i then ks else c2e i ks))) else none
 | _,_=>none
@[go_sem] theorem e7a (b:Nat) (ks:List Int) (i:Int) (q:Bool):e30 E t b ks (.int .i64 i) (.bool q) = bif a88 E t && q then some (.set b (.uset (bif ks.contains i then ks else c2e i ks))) else none:=by rfl
def e0q (E:Env) (h:FHeap) (t:TypeId) (b:Nat) (k v:AV):Option AObj → Option Eff
 | some (.uset ks)=>e30 E t b ks k v
 | _=>a1c E h t (.map b) k v
@[go_sem] theorem e7b (b:Nat) (k v:AV) (ks:List Int):e0q E h t b k v (some (.uset ks)) = e30 E t b ks k v:=by rfl
theorem c30 {b:Nat} {k:AV} (hb:∀ ks vs bs cl,h b ≠ some (.map ks vs bs cl)):a80 E h t (.map b) k = none:=by
 unfold a80
 split
 ·rename_i kt _ b' hu he
  cases he
  rw [cond_eq_ite];split
  ·split
   ·rename_i hh;exact absurd hh (hb _ _ _ _)
   ·rfl
  ·rfl
 ·rfl
@[go_sem] theorem e79 (b:Nat) (k v:AV):oor (a1c E h t (.map b) k v) (b0p E h t (.map b) k v) = e0q E h t b k v (h b):=by
 have none_case:(∀ ks,h b ≠ some (.uset ks)) → b0p E h t (.map b) k v = none:=by
  intro hn
  unfold b0p
  split
  ·rename_i b' i q he
   cases he
   split
   ·rename_i ks hh;exact absurd hh (hn ks)
   ·rfl
  ·rfl
 cases hb:h b with
 | none=>rw [none_case (by rw [hb];simp)];simp only [e0q];cases a1c E h t (.map b) k v<;>rfl
 | some ob=>
  cases ob with
  | uset ks=>
   have:a1c E h t (.map b) k v = none:=by
    unfold a1c;rw [c30 (by rw [hb];simp)]
   rw [this]
   simp only [oor,e0q]
   unfold e30 b0p
   cases k<;>first|rfl|(rename_i kk i;cases kk<;>first|rfl|(cases v<;>first|rfl|(simp only [hb])))
  | _=>rw [none_case (by rw [hb];simp)];simp only [e0q];cases a1c E h t (.map b) k v<;>rfl
/-! delete -/
@[go_sem] theorem e0v (x y:Operand) (t u:TypeId):a0o E draw call F H (.call { callee:=.builtin .delete,args:=#[x,y],argTypes:=#[t,u] }) = a0h (b5h E (a01 H) t (opv E F x) (opv E F y)) fun e=>bif e.fits H.length then some (.tuple [],b03 H e,⟨a0f (opv E F x) ++ a0f (opv E F y),e.keys H.length⟩) else none:=by
 refine (a48 (v:=(b5h E (a01 H) t (opv E F x) (opv E F y)).map (.tuple [],·)) rfl rfl rfl).trans ?_
 cases b5h E (a01 H) t (opv E F x) (opv E F y)<;>simp [a81,a0h]
def e6z (E:Env) (t:TypeId) (b:Nat) (i:Int):Option AObj → Option Eff
 | some (.uset ks)=>bif a88 E t then some (.set b (.uset (ks.filter fun y=>!decide (y = i)))) else none
 | _=>none
@[go_sem] theorem e9c (b:Nat) (i:Int) (ks:List Int):e6z E t b i (some (.uset ks)) = bif a88 E t then some (.set b (.uset (ks.filter fun y=>!decide (y = i)))) else none:=by rfl
@[go_sem] theorem e77 (b:Nat) (i:Int):b5h E h t (.map b) (.int .i64 i) = e6z E t b i (h b):=by
 unfold b5h e6z
 cases hb:h b with
 | none=>simp only [hb]
 | some ob=>cases ob<;>simp only [hb]
/-! length -/
/-! ranging -/
@[go_sem] theorem e3o {n:Nat} {ks:List Int}:oor (b2h E n t (.iset ks)) (b1z E n t (.iset ks)) = bif b6i (E.und t) then some (.ptr n 0 0,.new (.miter ks [] none)) else none:=by
 have:b2h E n t (.iset ks) = none:=by unfold b2h;split<;>first|rfl|(rename_i h;cases h)
 rw [this];rfl
@[go_sem] theorem e35 (it:Operand):a0o E draw call F H (.entry it) = a0h (a7w (a01 H) (opv E F it)) fun v=>some (v,H,⟨a0f (opv E F it),[]⟩):=a1l rfl rfl
def e4b:Option AObj → Option AV
 | some (.miter _ vis _)=>(vis.getLast?).map fun i=>.tuple [.int .i64 i,.bool true]
 | _=>none
@[go_sem] theorem e6x (ks vis:List Int) (i:Int) (arm:Option (Option Int)):e4b (some (.miter ks (vis ++ [i]) arm)) = some (.tuple [.int .i64 i,.bool true]):=by
 simp [e4b]
@[go_sem] theorem e4n (b:Nat):a7w h (.ptr b 0 0) = e4b (h b):=by
 unfold a7w e4b
 cases hb:h b with
 | none=>simp only [hb]
 | some ob=>
  cases ob
  case miter ks vis arm=>simp only [hb];cases vis.getLast?<;>rfl
  all_goals simp only [hb]
/-! frames and heaps -/
variable (π:Nat → Option Nat)
@[go_sem] theorem d9p (ks:List Int):a15 (some (.uset ks)) = []:=by rfl
@[go_sem] theorem d6t (ks vis:List Int) (arm:Option (Option Int)):a15 (some (.miter ks vis arm)) = []:=by rfl
@[go_sem] theorem d6s (ks:List Int):a0p π (.uset ks) = .uset ks:=by rfl
@[go_sem] theorem d51 (ks vis:List Int) (arm:Option (Option Int)):a0p π (.miter ks vis arm) = .miter ks vis arm:=by rfl
@[go_sem] theorem e07 (ks:List Int):AV.cells (.iset ks) = [.iset ks]:=by rfl
@[go_sem] theorem d1i (ks:List Int):AV.storable (.iset ks) = true:=by rfl
@[go_sem] theorem d65 (ks:List Int):a0f (.iset ks) = []:=by rfl
end
theorem c0j {h:FHeap} {m n b:Nat} {ks:List Int} (hn:0 < n) (hb:h b = some (.uset ks)):a5c h m n (.map b) = some (.iset ks):=by
 obtain ⟨n,rfl⟩:∃ k,n = k + 1:=⟨n - 1,by omega⟩
 simp only [a5c,hb]
end Go.Ax
/- AxTab: a table of rows of words in blocks, wherever they lie; heads of loops and calls over it. -/
namespace Go.Ax
structure Mv (H:a03) (R:Nat → Prop) (π:Nat → Option Nat) (H1:a03):Prop where
 inj:∀ a b c,π a = some c → π b = some c → a = b
 closed:∀ b,R b → ∀ c ∈ a15 (a01 H b),R c
 here:∀ b,R b → ∃ c,π b = some c
 heap:∀ b c,R b → π b = some c → a01 H1 c = (a01 H b).map (a0p π)
theorem Gc.mv {m:Nat} {F:Frm} {H H1:a03} {R:Nat → Prop} {π:Nat → Option Nat} (g:Gc m F H R π H1):Mv H R π H1:=⟨g.inj,g.closed,g.here,fun b c _ h=>g.heap b c h⟩
section
variable {H H1:a03} {R:Nat → Prop} {π:Nat → Option Nat} {a b q:Nat} {ids:Nat → Nat} {w:Nat} {fo:List (List (BitVec 64))} {fr:Int}
end
/-! ### calls, wherever the blocks lie -/
end Go.Ax
/- AxTab2: a table that a call has been given: heads of loops and calls that write it. -/
namespace Go.Ax
section
variable {H H1:a03} {a b q:Nat} {ids:Nat → Nat} {w:Nat} {fo:List (List (BitVec 64))} {fr:Int}
mutual
theorem b3m {m:Nat} {π:Nat → Option Nat} (hπ:∀ c,c < m → π c = some c):∀ (v:AV),(∀ c ∈ refs v,c < m) → ren π v = v
 | .ptr b i o,h=>by simp only [ren,hπ b (h b (by simp [refs]))]
 | .slice b o l c,h=>by simp only [ren,hπ b (h b (by simp [refs]))]
 | .map b,h=>by simp only [ren,hπ b (h b (by simp [refs]))]
 | .yfn b,h=>by simp only [ren,hπ b (h b (by simp [refs]))]
 | .func fn fs cs,h=>by
  simp only [refs,List.mem_append] at h
  simp only [ren,a5p hπ fs (fun c hc=>h c (.inl hc)),a5p hπ cs (fun c hc=>h c (.inr hc))]
 | .iface t x,h=>by simp only [refs] at h;simp only [ren,b3m hπ x h]
 | .agg cs,h=>by simp only [refs] at h;simp only [ren,a5p hπ cs h]
 | .tuple cs,h=>by simp only [refs] at h;simp only [ren,a5p hπ cs h]
 | .junk,_|.bool _,_|.int ..,_|.str _,_|.nilptr,_|.nilslice,_|.nilmap,_|.nilfunc,_|.nilifc,_|.iptr _,_|.islice ..,_|.imap ..,_|.iset _,_=>rfl
theorem a5p {m:Nat} {π:Nat → Option Nat} (hπ:∀ c,c < m → π c = some c):∀ (l:List AV),(∀ c ∈ a0j l,c < m) → c1i π l = l
 | [],_=>rfl
 | v :: vs,h=>by
  simp only [a0j,List.mem_append] at h
  simp only [c1i,b3m hπ v (fun c hc=>h c (.inl hc)),a5p hπ vs (fun c hc=>h c (.inr hc))]
end
theorem a91 {m:Nat} {π:Nat → Option Nat} (hπ:∀ c,c < m → π c = some c) (l:List AV) (h:∀ c ∈ a0j l,c < m):l.map (ren π) = l:=by rw [← a8d];exact a5p hπ l h
theorem c53 {m:Nat} {π:Nat → Option Nat} (hπ:∀ c,c < m → π c = some c) (o:AObj) (h:∀ c ∈ a15 (some o),c < m):a0p π o = o:=by
 cases o with
 | row k rows=>
  simp only [a0p]
  congr 1
  conv=>rhs;rw [← List.map_id rows]
  refine List.map_congr_left fun r hr=>?_
  refine a91 hπ r fun e he=>h e ?_
  simp only [a15,List.mem_flatMap];exact ⟨r,hr,he⟩
 | map ks vs bs cl=>
  simp only [a0p]
  rw [a91 hπ ks (fun e he=>h e (by simp [a15,he])),a91 hπ vs (fun e he=>h e (by simp [a15,he]))]
 | siter s p=>rfl
 | uset ks=>rfl
 | miter ks vis arm=>rfl
 | yloop y Fy st=>
  simp only [a0p]
  congr 1
  conv=>rhs;rw [← List.map_id Fy]
  refine List.map_congr_left fun x hx=>?_
  rw [b3m hπ x.2 fun c hc=>h c (c7i hx hc)];rfl
theorem b63 {m:Nat} {π:Nat → Option Nat} (hπ:∀ c,c < m → π c = some c):∀ F:Frm,(∀ c ∈ a0j (F.map (·.2)),c < m) → b92 π F = F
 | [],_=>rfl
 | (s,v) :: F,h=>by
  simp only [List.map_cons,a0j,List.mem_append] at h
  have:=a91 hπ [v] (by simp only [a0j,List.append_nil];exact fun c hc=>h c (.inl hc))
  simp only [List.map_cons,List.map_nil,List.cons.injEq,and_true] at this
  rw [c7f,this,b63 hπ F (fun c hc=>h c (.inr hc))]
end
theorem b26 (a b:List AV):a0j (a ++ b) = a0j a ++ a0j b:=by
 induction a with
 | nil=>rfl
 | cons v a ih=>simp only [List.cons_append,a0j,ih,List.append_assoc]
end Go.Ax
/- AxLow: a loop's head over blocks that all stood before the call and refer to nothing. -/
namespace Go.Ax
theorem d33 {H H1:a03} (hl:H1.length = H.length) (h:∀ b,b < H.length → a01 H1 b = a01 H b):H1 = H:=by
 apply List.ext_getElem hl
 intro b h1 h2
 have:=h b h2
 unfold a01 at this
 rw [z9e h1,z9e h2] at this
 exact this
theorem e1y {keep:List Nat} {F F':Frm} {H:a03} (hk:a2e keep F = F') (hF:∀ b ∈ a0j (F'.map (·.2)),b < H.length) (hn:(a0j (F'.map (·.2))).length < 1000) (hH:∀ b,a15 (a01 H b) = []):gcD H.length keep F H = some (F',H):=by
 subst hk
 have hsum:((List.range H.length).map fun b=>(a15 (a01 H b)).length).sum = 0:=by
  have:((List.range H.length).map fun b=>(a15 (a01 H b)).length) = List.replicate H.length 0:=by
   rw [← List.length_range (n:=H.length),← List.map_const',List.length_range]
   exact List.map_congr_left fun b _=>by rw [hH];rfl
  rw [this];simp
 have hfl:(H.take H.length).flatMap a15 = []:=by
  rw [List.take_length,List.flatMap_eq_nil_iff]
  intro o ho
  obtain ⟨b,hb⟩:=List.mem_iff_getElem?.1 ho
  have:=hH b
  unfold a01 at this
  rw [hb] at this
  exact this
 obtain ⟨R,π,H1,h1,hg,hl⟩:=c92 (m:=H.length) (keep:=keep) (F:=F) (H:=H) (Nat.le_refl _) (List.range H.length) (fun b hb=>List.mem_range.2 (hF b hb)) (fun b _ c hc=>by rw [hH] at hc;simp at hc) (fun b _ c hc=>by rw [hH] at hc;simp at hc) (by rw [hsum,hfl];simp only [List.length_nil];omega)
 have hlen:H1.length = H.length:=by
  have:=hg.len [] (fun b hR hb=>by
   have:=hg.least (fun b=>b < H.length) hF (fun b _ c hc=>by rw [hH] at hc;simp at hc) (fun b _ c hc=>by rw [hH] at hc;simp at hc) b hR
   omega)
  simp only [List.length_nil,Nat.add_zero] at this
  omega
 rw [h1,b63 hg.low _ hF]
 have:H1 = H:=d33 hlen fun b hb=>by
  rw [hg.heap b b (hg.low b hb)]
  cases ho:a01 H b with
  | none=>rfl
  | some o=>
   have h2:=hH b
   rw [ho] at h2
   simp only [Option.map_some]
   rw [c53 hg.low o (fun c hc=>by rw [h2] at hc;simp at hc)]
 rw [this]
end Go.Ax
/- AxLd: lent calls in the walks. -/
namespace Go.Ax
theorem b1w {E:Env} {draw:Bool} {call:CallF} {g:FuncId} {fs cs as args args':List AV} {H H1:a03} {v v':AV} (hx:E.ext g = true) (hf:(E.fn g).isSome = true) (he:fs ++ as ++ cs = args) (h1:a5h 0 false (a5c (a01 H) 0 12) args = some args') (hr:call g args' [] = some (v,H1)) (hn:noI v = true) (hv:a3f 0 false (a5c (a6l H1) 0 12) v = some v') :
 a0g E draw call (.func (.func g) fs cs) as H = some (v',H,List.range H.length):=by
 simp only [a0g,hx,hf,he,cond_true,a8k,h1,hr,hn,hv]
end Go.Ax
/- AxLog: the look at a drawn region's log, the order first. -/
namespace Go.Ax
def a7m (all:List Oper) (j:Nat) (y:LogE):Nat → List LogE → Bool
 | _,[]=>true
 | 0,_ :: _=>false
 | i + 1,x :: rest=>(a4b all i j || !(x.clash y)) && a7m all j y i rest
def b0d (all:List Oper):Nat → List LogE → Bool
 | _,[]=>true
 | 0,_ :: _=>false
 | j + 1,y :: rest=>a7m all j y j rest && b0d all j rest
theorem b6b (all:List Oper) (j:Nat) (y:LogE):∀ (i:Nat) (l:List LogE),a7m all j y i l = logOk.logRow all j y i l
 | _,[]=>by unfold a7m logOk.logRow;rfl
 | 0,_ :: _=>by unfold a7m logOk.logRow;rfl
 | i + 1,x :: rest=>by unfold a7m logOk.logRow;rw [b6b all j y i rest,Bool.or_comm]
theorem c01 (all:List Oper):∀ (i:Nat) (l:List LogE),b0d all i l = logOk all i l
 | _,[]=>by unfold b0d logOk;rfl
 | 0,_ :: _=>by unfold b0d logOk;rfl
 | j + 1,y :: rest=>by unfold b0d logOk;rw [c01 all j rest,b6b]
theorem xs2 {F F1:Frm} {H H1:a03} {Q:b04} {E:Env} {M:List Fact} {m N:Nat} {g:FuncId} {cur:Nat} {id ops draw} {log:List LogE} (h:a82 E draw N (sem E M) ops.toList ops.toList [] F H = some (F1,H1,log)) (hl:(!draw || b0d ops.toList log.length log) = true) (hq:Q .normal F1 H1):Wp (cx E M m N g cur) (.region id ops draw) F H Q:=
 xs h (by rw [← c01];exact hl) hq
def c6n (all:List Oper) (j:Nat) (y:LogE):List LogE → Prop
 | []=>True
 | x :: rest=>(a4b all rest.length j = true ∨ x.clash y = false) ∧ c6n all j y rest
def d0w (all:List Oper):List LogE → Prop
 | []=>True
 | y :: rest=>c6n all rest.length y rest ∧ d0w all rest
theorem b85 {all:List Oper}:d0w all []:=by unfold d0w;trivial
theorem b47 {all:List Oper} {y:LogE} {rest:List LogE} (h1:c6n all rest.length y rest) (h2:d0w all rest):d0w all (y :: rest):=by unfold d0w;exact ⟨h1,h2⟩
theorem b7j {all:List Oper} {j:Nat} {y:LogE}:c6n all j y []:=by unfold c6n;trivial
theorem b7i {all:List Oper} {j:Nat} {y x:LogE} {rest:List LogE} (h1:a4b all rest.length j = true) (h2:c6n all j y rest):c6n all j y (x :: rest):=by unfold c6n;exact ⟨.inl h1,h2⟩
theorem b7k {all:List Oper} {j:Nat} {y x:LogE} {rest:List LogE} (h1:x.clash y = false) (h2:c6n all j y rest):c6n all j y (x :: rest):=by unfold c6n;exact ⟨.inr h1,h2⟩
theorem c79 {all:List Oper} {j:Nat} {y:LogE}:∀ {l:List LogE},c6n all j y l → a7m all j y l.length l = true
 | [],_=>by unfold a7m;rfl
 | x :: rest,h=>by
  rw [List.length_cons]
  unfold a7m
  rw [c79 h.2,Bool.and_true]
  rcases h.1 with h1|h1
  ·rw [h1,Bool.true_or]
  ·rw [h1];simp
theorem c8a {all:List Oper}:∀ {l:List LogE},d0w all l → b0d all l.length l = true
 | [],_=>by unfold b0d;rfl
 | y :: rest,h=>by
  rw [List.length_cons]
  unfold b0d
  rw [c8a h.2,Bool.and_true]
  exact c79 h.1
theorem xs3 {F F1:Frm} {H H1:a03} {Q:b04} {E:Env} {M:List Fact} {m N:Nat} {g:FuncId} {cur:Nat} {id ops draw} {log:List LogE} (h:a82 E draw N (sem E M) ops.toList ops.toList [] F H = some (F1,H1,log)) (hl:d0w ops.toList log) (hq:Q .normal F1 H1):Wp (cx E M m N g cur) (.region id ops draw) F H Q:=
 xs2 h (by rw [c8a hl];simp) hq
theorem b54 {x y:LogE} (h1:∀ a ∈ x.keys,a ∉ y.needs) (h2:∀ a ∈ x.keys,a ∉ y.keys) (h3:∀ a ∈ x.needs,a ∉ y.keys):x.clash y = false:=by
 have hm:∀ l k:List Nat,(∀ a ∈ l,a ∉ k) → b42 l k = false:=by
  intro l k h
  unfold b42
  rw [List.any_eq_false]
  intro a ha
  have:=h a ha
  rw [Bool.not_eq_true]
  cases hc:a16 k a with
  | false=>rfl
  | true=>exact absurd (a2r.1 hc) this
 unfold LogE.clash
 rw [hm _ _ h1,hm _ _ h2,hm _ _ h3];rfl
theorem d4l {F:Frm} {H:a03} {Q:b04} {E:Env} {M:List Fact} {m N:Nat} {g:FuncId} {cur:Nat} {id ops draw} (R:Frm → a03 → Prop) (h:∃ F1 H1 log,a82 E draw N (sem E M) ops.toList ops.toList [] F H = some (F1,H1,log) ∧ d0w ops.toList log ∧ R F1 H1) (hq:∀ F1 H1,R F1 H1 → Q .normal F1 H1):Wp (cx E M m N g cur) (.region id ops draw) F H Q:=by
 obtain ⟨F1,H1,log,h1,h2,h3⟩:=h
 exact xs3 h1 h2 (hq _ _ h3)
theorem b40 {draw:Bool} {E:Env} {M:List Fact} {N:Nat} {ops:List Oper} {F F1:Frm} {H H1:a03} {log:List LogE} {R:Frm → a03 → Prop} (h1:a82 E draw N (sem E M) ops ops [] F H = some (F1,H1,log)) (h2:d0w ops log) (h3:R F1 H1):∃ F1 H1 log,a82 E draw N (sem E M) ops ops [] F H = some (F1,H1,log) ∧ d0w ops log ∧ R F1 H1:=⟨_,_,_,h1,h2,h3⟩
theorem b1n {H L:a03} {a b d:Nat} {x y:Option AObj} (hd:d < H.length):a01 ((H.set a x).set b y ++ L) d = if b = d then y else if a = d then x else a01 H d:=by
 rw [a3a (by rw [List.length_set];exact hd)]
 by_cases h1:b = d
 ·rw [if_pos h1,if_pos h1]
 ·rw [if_neg h1,if_neg h1]
  have:=a3a (H:=H) (L:=[]) (a:=a) (o:=x) hd
  rwa [List.append_nil] at this
theorem c5o {H L:a03} {a b:Nat} {x y:Option AObj} (i:Nat):a01 ((H.set a x).set b y ++ L) (H.length + i) = a01 L i:=by
 have:=a8n (H:=H.set a x) (L:=L) (a:=b) (o:=y) i
 rwa [List.length_set] at this
end Go.Ax
/- AxTab3: calls that are given a table (and a list in a block). -/
namespace Go.Ax
end Go.Ax
/- AxTab4: a table that is being c3m; heads of the loops that make and fill it. -/
namespace Go.Ax
section
variable {H H1:a03} {R:Nat → Prop} {π:Nat → Option Nat} {a b:Nat} {ids:Nat → Nat} {w n i:Nat}
end
end Go.Ax
/- AxTab5: a table's number in another cell; a table that is given back. -/
namespace Go.Ax
section
variable {H:a03} {a b q:Nat} {ids:Nat → Nat} {w:Nat} {fo:List (List (BitVec 64))} {fr:Int}
end
end Go.Ax
/- AxMapS: maps by keys that have an encoding; maps of growing slices of numbers. -/
namespace Go.Ax
def a94 {α:Type} [DecidableEq α] (x:α):List α → Option Nat
 | []=>none
 | y :: l=>if x = y then some 0 else (a94 x l).map (·+ 1)
theorem a4a {α:Type} [DecidableEq α] {x:α}:∀ {l:List α} {j:Nat},a94 x l = some j → l[j]? = some x
 | [],_,h=>by cases h
 | y :: l,j,h=>by
  unfold a94 at h
  split at h
  ·rename_i e;cases h;rw [e];rfl
  ·cases hp:a94 x l with
   | none=>rw [hp] at h;cases h
   | some k=>rw [hp] at h;cases h;rw [List.getElem?_cons_succ];exact a4a hp
structure KeyOk {α:Type} [DecidableEq α] (E:Env) (t kt et:TypeId) (enc:α → AV):Prop where
 und:E.und t = some (.map kt et)
 ty:c2c E kt = true
 val:∀ x,c08 E kt (enc x) = true
 eq:∀ x y,aeq E 6 kt (enc x) (enc y) = some (decide (x = y))
 same:∀ x,c6a (enc x) (enc x) = true
section
variable {α:Type} [DecidableEq α] {E:Env} {t kt et:TypeId} {enc:α → AV}
theorem KeyOk.find (ho:KeyOk E t kt et enc) (x:α):∀ (l:List α) (i:Nat),a1t (aeq E 6 kt) (enc x) (l.map enc) i = some ((a94 x l).map (i + ·))
 | [],i=>rfl
 | y :: l,i=>by
  simp only [List.map_cons,a1t,ho.eq,a94]
  by_cases h:x = y
  ·simp [h]
  ·rw [decide_eq_false h,cond_false,ho.find x l (i + 1),if_neg h]
   cases a94 x l with
   | none=>rfl
   | some k=>simp only [Option.map_some,Option.some.injEq];omega
theorem KeyOk.lookup (ho:KeyOk E t kt et enc) {h:FHeap} {m v z:AV} {zl:List AV} {d:TypeDesc} {l:List α} {vs:List AV} (hz:E.zero et = some zl) (hd:E.und et = some d) (hz1:a84 d zl = some z) (hm:b2i h m = some (l.map enc,vs)) (x:α)
 (hv:(match a94 x l with|some i=>vs[i]?|none=>some z) = some v):a30 E h t m (enc x) false = some v:=by
 unfold a30
 rw [ho.und]
 simp only [ho.ty,ho.val,Bool.and_self,cond_true,hm,hz,hd,ho.find]
 cases hp:a94 x l with
 | none=>
  rw [hp] at hv
  cases hv
  simp only [Option.map_none]
  unfold a84 at hz1
  cases ha:a1z d with
  | true=>rw [ha] at hz1;simpa using hz1
  | false=>
   rw [ha] at hz1
   simp only [cond_false] at hz1 ⊢
   split at hz1
   ·cases hz1;rfl
   ·cases hz1
 | some i=>
  rw [hp] at hv
  simp only [Option.map_some,Nat.zero_add]
  simp only at hv
  rw [hv];rfl
theorem KeyOk.pairs (ho:KeyOk E t kt et enc) {h:FHeap} {b:Nat} {l:List α} {vs:List AV} {bs:List Nat} {cl:Nat} (hb:h b = some (.map (l.map enc) vs bs cl)) (x:α):a80 E h t (.map b) (enc x) = some (b,l.map enc,vs,bs,cl,a94 x l):=by
 unfold a80
 rw [ho.und]
 simp only [ho.ty,ho.val,Bool.and_self,cond_true,hb,ho.find]
 cases hp:a94 x l with
 | none=>rfl
 | some i=>
  simp only [Option.map_some,Nat.zero_add]
  have:(l.map enc)[i]? = some (enc x):=by rw [List.getElem?_map,a4a hp];rfl
  rw [this]
  simp only [ho.same,cond_true]
theorem KeyOk.entry (ho:KeyOk E t kt et enc) {h:FHeap} {b:Nat} {l:List α} {vs:List AV} {bs:List Nat} {cl:Nat} (hb:h b = some (.map (l.map enc) vs bs cl)) (x:α) {r:AV × Eff} {zl:List AV} {d:TypeDesc} {z:AV} (hz:E.zero et = some zl) (hd:E.und et = some d) (hz1:a84 d zl = some z)
 (hr:(match a94 x l with|some i=>(match vs[i]?,bs[i]? with|some v,some s=>some (.tuple [v,.int .i64 s],Eff.set b (.map (l.map enc) vs bs cl))|_,_=>none)|none=>some (.tuple [z,.int .i64 cl],.set b (.map (l.map enc ++ [enc x]) (vs ++ [z]) (bs ++ [cl]) (cl + 1)))) = some r) :
 a4g E h t (.map b) (enc x) = some r:=by
 unfold a4g
 rw [ho.pairs hb x]
 cases hp:a94 x l with
 | none=>
  rw [hp] at hr
  simp only at hr ⊢
  rw [ho.und]
  simp only [hz,hd,hz1]
  exact hr
 | some i=>
  rw [hp] at hr
  simp only at hr ⊢
  exact hr
end
theorem b7p (n j:Nat) (h:j < n):(List.range n).findIdx? (fun (x:Nat)=>(x:Int) == (j:Int)) = some j:=by
 rw [List.findIdx?_eq_some_iff_getElem]
 refine ⟨by simpa using h,by simp,?_⟩
 intro k hk
 simp
 omega
theorem a9h {h:FHeap} {b:Nat} {ks vs:List AV} {n:Nat} {cl:Nat} {k:IntKind} (hb:h b = some (.map ks vs (List.range n) cl)) {j:Nat} (hj:j < n) (v:AV):a1w h (.map b) (.int k j) v = some (.set b (.map ks (vs.set j v) (List.range n) cl)):=by
 unfold a1w
 simp only [hb]
 rw [b7p n j hj]
/-! ### the values that a key has collected -/
def atE {α:Type} [DecidableEq α] (x:α) (es:List (α × List Nat)):List Nat:=match a94 x (es.map (·.1)) with
 | some j=>(es[j]?.map (·.2)).getD []
 | none=>[]
def d0s {α:Type} [DecidableEq α] (es:List (α × List Nat)) (x:α) (i:Nat):List (α × List Nat):=match a94 x (es.map (·.1)) with
 | some j=>es.set j (x,atE x es ++ [i])
 | none=>es ++ [(x,[i])]
theorem b3q {α:Type} [DecidableEq α] {x:α}:∀ (a b:List α),a94 x (a ++ b) = (a94 x a).or ((a94 x b).map (a.length + ·))
 | [],b=>by simp [a94]
 | y :: a,b=>by
  simp only [List.cons_append,a94]
  split
  ·rfl
  ·rw [b3q a b]
   cases a94 x a with
   | some j=>rfl
   | none=>
    cases a94 x b with
    | none=>rfl
    | some j=>simp;omega
theorem d8m {α:Type} [DecidableEq α] (es:List (α × List Nat)) (x y:α) (i:Nat):atE y (d0s es x i) = if y = x then atE y es ++ [i] else atE y es:=by
 unfold d0s
 cases hp:a94 x (es.map (·.1)) with
 | none=>
  simp only
  unfold atE
  rw [List.map_append,b3q]
  by_cases h:y = x
  ·subst h
   rw [hp]
   simp [a94]
  ·cases hy:a94 y (es.map (·.1)) with
   | none=>simp [a94,h]
   | some j=>
    have:=(List.getElem?_eq_some_iff.1 (a4a hy)).1
    rw [List.length_map] at this
    simp [h,List.getElem?_append_left this]
 | some j=>
  simp only
  have hj:=a4a hp
  have hjl:j < es.length:=by simpa using (List.getElem?_eq_some_iff.1 hj).1
  have key:∀ X:List Nat,atE y (es.set j (x,X)) = if y = x then X else atE y es:=by
   intro X
   have hk:(es.set j (x,X)).map (·.1) = es.map (·.1):=by
    rw [List.map_set]
    apply List.ext_getElem?
    intro k
    rw [List.getElem?_set]
    by_cases hjk:j = k
    ·subst hjk;rw [if_pos rfl,if_pos (by simpa using hjl),hj]
    ·rw [if_neg hjk]
   unfold atE
   rw [hk]
   by_cases h:y = x
   ·subst h
    rw [hp,if_pos rfl]
    simp [hjl]
   ·rw [if_neg h]
    cases hy:a94 y (es.map (·.1)) with
    | none=>rfl
    | some k=>
     have hne:j ≠ k:=by
      intro e;subst e
      have:=a4a hy
      rw [hj] at this;exact h (z9o this).symm
     simp only
     rw [List.getElem?_set,if_neg hne]
  rw [key]
  by_cases h:y = x
  ·rw [if_pos h,if_pos h,h]
  ·rw [if_neg h,if_neg h]
end Go.Ax
/- AxMapT: a map of growing slices of numbers, wherever its blocks lie. -/
namespace Go.Ax
def nR (n:Nat):List AV:=[.int .i64 n]
theorem b8i (l:List Nat):FlatR (l.map nR):=FlatR.map fun _=>rfl
structure MSl {α:Type} [DecidableEq α] (enc:α → AV) (H:a03) (c b:Nat) (ids:Nat → Nat) (es:List (α × List Nat)):Prop where
 cell:a01 H c = some (.row 1 [[.map b]])
 top:a01 H b = some (.map ((es.map (·.1)).map enc) (es.mapIdx fun j e=>.slice (ids j) 0 e.2.length none) (List.range es.length) es.length)
 sub:∀ (j:Nat) (e:α × List Nat),es[j]? = some e → a01 H (ids j) = some (.row 1 (e.2.map nR))
 inj:∀ j k,j < es.length → k < es.length → ids j = ids k → j = k
section
variable {α:Type} [DecidableEq α] {enc:α → AV} {H H1:a03} {R:Nat → Prop} {π:Nat → Option Nat} {c b:Nat} {ids:Nat → Nat} {es:List (α × List Nat)}
omit [DecidableEq α] in
theorem a6z {enc:α → AV} (hf:∀ x,refs (enc x) = []):∀ l:List α,a0j (l.map enc) = []
 | []=>rfl
 | x :: l=>by simp only [List.map_cons,a0j,hf x,a6z hf l,List.append_nil]
theorem a7h:∀ l:List AV,a0j l = l.flatMap refs
 | []=>rfl
 | v :: l=>by simp only [a0j,List.flatMap_cons,a7h l]
theorem b4t {β:Type}:∀ (l:List AV) (f:AV → List β),(∀ v ∈ l,(f v).length ≤ 1) → (l.flatMap f).length ≤ l.length
 | [],_,_=>by simp
 | v :: l,f,h=>by
  have h1:=h v (by simp)
  have h2:=b4t l f (fun v hv=>h v (by simp [hv]))
  simp only [List.flatMap_cons,List.length_append,List.length_cons];omega
def MSl.obj (enc:α → AV) (ids:Nat → Nat) (es:List (α × List Nat)) (x:α) (n:Nat):AObj:=match a94 x (es.map (·.1)) with
 | some j=>.map ((es.map (·.1)).map enc) ((es.mapIdx fun j e=>AV.slice (ids j) 0 e.2.length none).set j (.slice n 0 ((atE x es).length + 1) none)) (List.range es.length) es.length
 | none=>.map ((es.map (·.1)).map enc ++ [enc x]) ((es.mapIdx fun j e=>AV.slice (ids j) 0 e.2.length none) ++ [.slice n 0 ((atE x es).length + 1) none]) (List.range es.length ++ [es.length]) (es.length + 1)
end
section
variable {α:Type} [DecidableEq α] {E:Env} {t kt et:TypeId} {enc:α → AV}
def a1r (enc:α → AV) (es:List (α × List Nat)):AV:=.imap ((es.map (·.1)).map enc) (es.map fun e=>.islice (e.2.map nR) none) (List.range es.length) es.length
theorem KeyOk.ilook (ho:KeyOk E t kt et enc) {zl:List AV} {d:TypeDesc} (hz:E.zero et = some zl) (hd:E.und et = some d) (hz1:a84 d zl = some .nilslice) (es:List (α × List Nat)) (x:α) :
 ∃ rr:Option (Option Nat),∀ h,a30 E h t (a1r enc es) (enc x) false = some (sl rr ((atE x es).map nR)):=by
 cases hp:a94 x (es.map (·.1)) with
 | none=>
  refine ⟨none,fun h=>?_⟩
  have e:atE x es = []:=by unfold atE;rw [hp]
  rw [e]
  exact ho.lookup hz hd hz1 (l:=es.map (·.1)) (vs:=es.map fun e=>.islice (e.2.map nR) none) rfl x (by rw [hp];rfl)
 | some j=>
  refine ⟨some none,fun h=>?_⟩
  have hjl:j < es.length:=by simpa using (List.getElem?_eq_some_iff.1 (a4a hp)).1
  have e:atE x es = es[j].2:=by unfold atE;rw [hp];simp [z9e hjl]
  rw [e]
  refine ho.lookup hz hd hz1 (l:=es.map (·.1)) (vs:=es.map fun e=>.islice (e.2.map nR) none) rfl x ?_
  rw [hp]
  simp only
  rw [List.getElem?_map,z9e hjl,Option.map_some,b0z]
end
section
variable {α:Type} [DecidableEq α] {enc:α → AV} {H:a03} {c b:Nat} {ids:Nat → Nat} {es:List (α × List Nat)}
theorem c41 {m:Nat} {d:AV → Option AV}:∀ (vs out:List AV),vs.length = out.length → (∀ (j:Nat) r o,vs[j]? = some r → out[j]? = some o → a3f m false d r = some o) → a5h m false d vs = some out
 | [],out,hl,_=>by cases out with|nil=>rfl|cons=>simp at hl
 | r :: rows,[],hl,_=>by simp at hl
 | r :: rows,o :: out,hl,hh=>by
  rw [a74,hh 0 r o rfl rfl]
  simp only [a0h]
  rw [c41 rows out (by simpa using hl) (fun j r o hr ho=>hh (j + 1) r o (by simpa using hr) (by simpa using ho))]
end
end Go.Ax
/- AxMapM: a map of growing slices of numbers, whoever d7u it. -/
namespace Go.Ax
structure MSm {α:Type} [DecidableEq α] (enc:α → AV) (H:a03) (b:Nat) (ids:Nat → Nat) (es:List (α × List Nat)):Prop where
 top:a01 H b = some (.map ((es.map (·.1)).map enc) (es.mapIdx fun j e=>.slice (ids j) 0 e.2.length none) (List.range es.length) es.length)
 sub:∀ (j:Nat) (e:α × List Nat),es[j]? = some e → a01 H (ids j) = some (.row 1 (e.2.map nR))
 inj:∀ j k,j < es.length → k < es.length → ids j = ids k → j = k
section
variable {α:Type} [DecidableEq α] {enc:α → AV} {H H1:a03} {R:Nat → Prop} {π:Nat → Option Nat} {b:Nat} {ids:Nat → Nat} {es:List (α × List Nat)}
def MSm.blocks (b:Nat) (ids:Nat → Nat) (n:Nat):List Nat:=b :: (List.range n).map ids
theorem MSm.mem_blocks {d n:Nat}:d ∈ MSm.blocks b ids n ↔ d = b ∨ ∃ j,j < n ∧ d = ids j:=by
 unfold MSm.blocks
 simp only [List.mem_cons,List.mem_map,List.mem_range]
 constructor
 ·rintro (h|⟨j,hj,rfl⟩)
  ·exact .inl h
  ·exact .inr ⟨j,hj,rfl⟩
 ·rintro (h|⟨j,hj,rfl⟩)
  ·exact .inl h
  ·exact .inr ⟨j,hj,rfl⟩
theorem MSm.sub_c (h:MSm enc H b ids es) {j:Nat} (hj:j < es.length):ids j ≠ b:=by
 obtain ⟨e,he⟩:∃ e,es[j]? = some e:=⟨_,z9e hj⟩
 have h1:=h.sub j e he
 intro hh
 rw [hh,h.top] at h1;cases h1
theorem MSm.lt (h:MSm enc H b ids es):∀ d ∈ MSm.blocks b ids es.length,d < H.length:=by
 intro d hd
 rcases MSm.mem_blocks.1 hd with rfl|⟨j,hj,rfl⟩
 ·exact a0z h.top
 ·obtain ⟨e,he⟩:∃ e,es[j]? = some e:=⟨_,z9e hj⟩
  exact a0z (h.sub j e he)
theorem MSm.top_refs (hf:∀ x,refs (enc x) = []) (h:MSm enc H b ids es) {d:Nat}:d ∈ a15 (a01 H b) ↔ ∃ j,j < es.length ∧ d = ids j:=by
 rw [h.top]
 show d ∈ a0j _ ++ a0j _ ↔ _
 rw [a6z hf,List.nil_append,a7h]
 simp only [List.mem_flatMap]
 constructor
 ·rintro ⟨r,hr,hc⟩
  obtain ⟨j,hj⟩:=List.mem_iff_getElem?.1 hr
  rw [List.getElem?_mapIdx] at hj
  cases he:es[j]? with
  | none=>rw [he] at hj;cases hj
  | some e=>
   rw [he] at hj;cases hj
   exact ⟨j,(List.getElem?_eq_some_iff.1 he).1,by simpa [refs] using hc⟩
 ·rintro ⟨j,hj,rfl⟩
  obtain ⟨e,he⟩:∃ e,es[j]? = some e:=⟨_,z9e hj⟩
  exact ⟨.slice (ids j) 0 e.2.length none,List.mem_iff_getElem?.2 ⟨j,by rw [List.getElem?_mapIdx,he];rfl⟩,by simp [refs]⟩
theorem MSm.closed (hf:∀ x,refs (enc x) = []) (h:MSm enc H b ids es):∀ d ∈ MSm.blocks b ids es.length,∀ d' ∈ a15 (a01 H d),d' ∈ MSm.blocks b ids es.length:=by
 intro d hd d' hd'
 rw [MSm.mem_blocks] at hd ⊢
 rcases hd with rfl|⟨j,hj,rfl⟩
 ·exact .inr ((h.top_refs hf).1 hd')
 ·obtain ⟨e,he⟩:∃ e,es[j]? = some e:=⟨_,z9e hj⟩
  rw [h.sub j e he,a0s (b8i _)] at hd'
  simp at hd'
theorem MSm.cost (hf:∀ x,refs (enc x) = []) (h:MSm enc H b ids es):((MSm.blocks b ids es.length).map fun d=>(a15 (a01 H d)).length).sum ≤ es.length:=by
 unfold MSm.blocks
 have e3:(a15 (a01 H b)).length ≤ es.length:=by
  rw [h.top]
  show (a0j _ ++ a0j _).length ≤ _
  rw [a6z hf,List.nil_append,a7h]
  refine Nat.le_trans (b4t _ refs ?_) (by simp)
  intro v hv
  obtain ⟨j,hj⟩:=List.mem_iff_getElem?.1 hv
  rw [List.getElem?_mapIdx] at hj
  cases he:es[j]? with
  | none=>rw [he] at hj;cases hj
  | some e=>rw [he] at hj;cases hj;simp [refs]
 have e4:(((List.range es.length).map ids).map fun c=>(a15 (a01 H c)).length).sum = 0:=by
  refine b2p _ ?_
  intro d hd
  obtain ⟨j,hj,rfl⟩:=List.mem_map.1 hd
  obtain ⟨e,he⟩:∃ e,es[j]? = some e:=⟨_,z9e (by simpa using hj)⟩
  rw [h.sub j e he];exact a0s (b8i _)
 simp only [List.map_cons,List.sum_cons,e4]
 omega
theorem MSm.mv (hf:∀ x,refs (enc x) = []) (h:MSm enc H b ids es) (hm:Mv H R π H1) (hb:R b):∃ b' ids',π b = some b' ∧ (∀ j,j < es.length → π (ids j) = some (ids' j)) ∧ MSm enc H1 b' ids' es:=by
 have hid:∀ j,j < es.length → R (ids j):=fun j hj=>hm.closed b hb _ ((h.top_refs hf).2 ⟨j,hj,rfl⟩)
 obtain ⟨b',eb⟩:=hm.here b hb
 have ei:∀ j,j < es.length → π (ids j) = some ((π (ids j)).getD 0):=fun j hj=>by obtain ⟨d,hd⟩:=hm.here _ (hid j hj);rw [hd];rfl
 refine ⟨b',fun j=>(π (ids j)).getD 0,eb,ei,?_,?_,?_⟩
 ·rw [hm.heap b b' hb eb,h.top]
  simp only [Option.map_some,a0p]
  congr 2
  ·exact a52 π (a6z hf _)
  ·apply List.ext_getElem?
   intro j
   rw [List.getElem?_map,List.getElem?_mapIdx,List.getElem?_mapIdx]
   cases he:es[j]? with
   | none=>rfl
   | some e=>
    have:=ei j (List.getElem?_eq_some_iff.1 he).1
    simp only [Option.map_some,Ax.ren]
    rw [this];rfl
 ·intro j e he
  have hj:=(List.getElem?_eq_some_iff.1 he).1
  rw [hm.heap _ _ (hid j hj) (ei j hj),h.sub j e he]
  simp only [Option.map_some,a0p,a0m π (b8i _)]
 ·intro j k hj hk e
  have e1:=ei j hj
  have e2:=ei k hk
  rw [e] at e1
  exact h.inj j k hj hk (hm.inj _ _ _ e1 e2)
theorem MSm.same (h:MSm enc H b ids es) (h1:∀ d ∈ MSm.blocks b ids es.length,a01 H1 d = a01 H d):MSm enc H1 b ids es:=
 ⟨by rw [h1 b (MSm.mem_blocks.2 (.inl rfl)),h.top],fun j e he=>by
  rw [h1 (ids j) (MSm.mem_blocks.2 (.inr ⟨j,(List.getElem?_eq_some_iff.1 he).1,rfl⟩)),h.sub j e he],h.inj⟩
theorem MSm.more {L:a03} (h:MSm enc H b ids es):MSm enc (H ++ L) b ids es:=h.same fun d hd=>a3q (eq_true (h.lt d hd))
theorem MSm.add (h:MSm enc H b ids es) (x:α) (i n:Nat) (hn:H.length ≤ n) (h1:a01 H1 b = some (MSl.obj enc ids es x n)) (h2:a01 H1 n = some (.row 1 ((atE x es ++ [i]).map nR)))
 (h3:∀ d,d < H.length → d ≠ b → (∀ j,a94 x (es.map (·.1)) = some j → d ≠ ids j) → a01 H1 d = a01 H d) :
 ∃ ids',MSm enc H1 b ids' (d0s es x i) ∧ (∀ j,j < (d0s es x i).length → ids' j = n ∨ (j < es.length ∧ ids' j = ids j)) ∧ (d0s es x i).length ≤ es.length + 1:=by
 have hlt:=h.lt
 have hidl:∀ j,j < es.length → ids j < H.length:=fun j hj=>hlt _ (MSm.mem_blocks.2 (.inr ⟨j,hj,rfl⟩))
 unfold MSl.obj at h1
 unfold d0s
 cases hp:a94 x (es.map (·.1)) with
 | none=>
  rw [hp] at h1
  have hat:atE x es = []:=by unfold atE;rw [hp]
  simp only [hat,List.length_nil,Nat.zero_add,List.nil_append] at h1 h2 ⊢
  refine ⟨fun j=>if j = es.length then n else ids j,⟨?_,?_,?_⟩,?_,by simp⟩
  ·rw [h1]
   congr 2
   ·simp
   ·apply List.ext_getElem?
    intro j
    rw [List.getElem?_mapIdx]
    by_cases hj:j < es.length
    ·rw [List.getElem?_append_left (by simpa using hj),List.getElem?_append_left hj,List.getElem?_mapIdx,z9e hj]
     simp [show j ≠ es.length by omega]
    ·by_cases hj2:j = es.length
     ·subst hj2;simp
     ·rw [List.getElem?_eq_none (by simp;omega),List.getElem?_eq_none (by simp;omega)];rfl
   ·simp [List.range_succ]
   ·simp
  ·intro j e he
   by_cases hj:j < es.length
   ·rw [List.getElem?_append_left hj] at he
    simp only [if_neg (show j ≠ es.length by omega)]
    rw [h3 _ (hidl j hj) (h.sub_c hj) (fun k hk=>by rw [hp] at hk;cases hk),h.sub j e he]
   ·have hj2:j = es.length:=by
     have:=(List.getElem?_eq_some_iff.1 he).1
     simp at this;omega
    subst hj2
    simp at he
    subst he
    simp only [if_true]
    rw [h2]
  ·intro j k hj hk e
   simp only [List.length_append,List.length_singleton] at hj hk
   by_cases h1:j = es.length<;>by_cases h2:k = es.length
   ·omega
   ·simp only [h1,if_true,if_neg h2] at e
    have:=hidl k (by omega);omega
   ·simp only [h2,if_true,if_neg h1] at e
    have:=hidl j (by omega);omega
   ·simp only [if_neg h1,if_neg h2] at e
    exact h.inj j k (by omega) (by omega) e
  ·intro j hj
   simp only [List.length_append,List.length_singleton] at hj
   by_cases h1:j = es.length
   ·exact .inl (if_pos h1)
   ·exact .inr ⟨by omega,if_neg h1⟩
 | some q=>
  rw [hp] at h1
  have hq:=a4a hp
  have hql:q < es.length:=by simpa using (List.getElem?_eq_some_iff.1 hq).1
  simp only at h1 ⊢
  refine ⟨fun j=>if j = q then n else ids j,⟨?_,?_,?_⟩,?_,by simp⟩
  ·rw [h1]
   congr 2
   ·congr 1
    rw [List.map_set]
    apply List.ext_getElem?
    intro k
    rw [List.getElem?_set]
    by_cases hjk:q = k
    ·subst hjk;rw [if_pos rfl,if_pos (by simpa using hql),hq]
    ·rw [if_neg hjk]
   ·apply List.ext_getElem?
    intro j
    rw [List.getElem?_set,List.getElem?_mapIdx,List.getElem?_mapIdx,List.getElem?_set,List.length_mapIdx]
    by_cases hjq:q = j
    ·subst hjq;simp [hql]
    ·rw [if_neg hjq,if_neg hjq]
     simp only [if_neg (Ne.symm hjq)]
   ·rw [List.length_set]
   ·rw [List.length_set]
  ·intro j e he
   rw [List.getElem?_set] at he
   by_cases hjq:q = j
   ·subst hjq
    rw [if_pos rfl,if_pos hql] at he
    cases he
    simp only [if_true]
    exact h2
   ·rw [if_neg hjq] at he
    have hj:=(List.getElem?_eq_some_iff.1 he).1
    simp only [if_neg (Ne.symm hjq)]
    rw [h3 _ (hidl j hj) (h.sub_c hj) (fun k hk=>by
     rw [hp] at hk;cases hk
     intro e;exact hjq (h.inj j q hj hql e).symm),h.sub j e he]
  ·intro j k hj hk e
   rw [List.length_set] at hj hk
   by_cases h1:j = q<;>by_cases h2:k = q
   ·omega
   ·simp only [h1,if_true,if_neg h2] at e
    have:=hidl k (by omega);omega
   ·simp only [h2,if_true,if_neg h1] at e
    have:=hidl j (by omega);omega
   ·simp only [if_neg h1,if_neg h2] at e
    exact h.inj j k (by omega) (by omega) e
  ·intro j hj
   rw [List.length_set] at hj
   by_cases h1:j = q
   ·exact .inl (if_pos h1)
   ·exact .inr ⟨hj,if_neg h1⟩
theorem MSm.frz (hf:∀ x,refs (enc x) = []) (h:MSm enc H b ids es) (n:Nat):a5c (a01 H) 0 (n + 2) (.map b) = some (a1r enc es):=by
 show (match a01 H b with
  | some (.map ks vs bs cl)=>match a5h 0 false (a5c (a01 H) 0 (n + 1)) ks,a5h 0 false (a5c (a01 H) 0 (n + 1)) vs with
   | some ks,some vs=>some (AV.imap ks vs bs cl)
   | _,_=>none
  | some (.uset ks)=>some (.iset ks)
  | _=>none) = _
 rw [h.top]
 simp only
 rw [a65 0 false _ _ (a6z hf _)]
 rw [c41 _ (es.map fun e=>.islice (e.2.map nR) none) (by simp)]
 ·rfl
 ·intro j r o hr ho
  rw [List.getElem?_mapIdx] at hr
  rw [List.getElem?_map] at ho
  cases he:es[j]? with
  | none=>rw [he] at hr;cases hr
  | some e=>
   rw [he] at hr ho
   cases hr;cases ho
   rw [a8q,decide_eq_false (Nat.not_lt_zero _),cond_false,a75 (eq_true (by omega:0 < n + 1)),h.sub j e he]
   simp only [b0w,a0h,List.drop_zero,Nat.zero_add,List.length_map]
   rw [decide_eq_true (Nat.le_refl _),cond_true,List.take_of_length_le (by simp),a1g _ _ (b8i _)]
theorem MSm.other (h:MSm enc H b ids es) {d:Nat} {k:Nat} {rows:List (List AV)} (hd:a01 H d = some (.row k rows)) (hk:∀ l:List Nat,k = 1 → rows ≠ l.map nR):d ≠ b ∧ ∀ j,j < es.length → d ≠ ids j:=by
 refine ⟨fun e=>?_,fun j hj e=>?_⟩
 ·rw [e,h.top] at hd;cases hd
 ·obtain ⟨x,hx⟩:∃ x,es[j]? = some x:=⟨_,z9e hj⟩
  rw [e,h.sub j x hx] at hd
  cases hd
  exact hk _ rfl rfl
end
end Go.Ax
/- AxGw: a flat block and a slice of rows that grow together. -/
namespace Go.Ax
section
variable {H H1:a03} {R:Nat → Prop} {π:Nat → Option Nat} {w b k:Nat} {ids:Nat → Nat} {cp:Nat → Option Nat} {ws:List (List AV)} {fo:List (List (List AV))}
end
end Go.Ax
/- AxTwX: a slice of growing slices beside flat blocks: a loop's head. -/
namespace Go.Ax
section
variable {H:a03} {b k:Nat} {ids:Nat → Nat} {cp:Nat → Option Nat} {fo:List (List (List AV))}
end
end Go.Ax
