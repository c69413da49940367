/- Part of a proof. No condition. -/
import Derived.Test.YtllalbnibhofiaaGreatDoorZPc
import Derived.Test.YtllalbnibhofiaaGreatDoorAxF
set_option linter.unusedSimpArgs false
set_option linter.unusedVariables false
namespace Go.ZInst
set_option maxHeartbeats 200000000
open Go.Proofs Go.Ax Go.Pc
set_option maxRecDepth 100000
theorem c0c {d:Bool} (H:a04) (w:W) (j:Nat) (hj:j < 64):a0e L.env d (f7x L.env Mf) (.func (.func 50) [] []) [.agg w.enc,.int .i64 j] H = some (.int .u8 (atW w j:Nat),H,[]):=
 a03 (by kernel_rfl) (by kernel_rfl) rfl rfl (e2a w j hj) rfl
theorem e2b (w:W) (j:Nat):atW w j ≤ 3:=by unfold atW;split<;>omega
/-- What a fault puts into its a2j. -/
def d57 (good:List W) (f:Flt) (j:Nat):Nat:=if f.model = 0 then f.value else atW (a15 a2m good f) j
def fD:Flt:=⟨0,0,0,0,0⟩
def b4y (fs:List Flt) (good:List W) (l:List Nat) (w:W):W:=l.foldl (fun w j=>a6t w j (d57 good (fs.getD j fD) j)) w
theorem c6r (fs:List Flt) (good:List W) (l:List Nat) (j:Nat) (w:W):b4y fs good (l ++ [j]) w = a6t (b4y fs good l w) j (d57 good (fs.getD j fD) j):=by unfold b4y;rw [List.foldl_append];rfl
theorem c6q {fs:List Flt} {good:List W} {l:List Nat} {i j:Nat} {w:W} (h:l[i]? = some j):b4y fs good (l.take (i + 1)) w = a6t (b4y fs good (l.take i) w) j (d57 good (fs.getD j fD) j):=by rw [a0u h,c6r]
def b0e (rl rg:Rep) (fs:List Flt) (good:List W):AV:=.func (.func 48) [] [.iptr [sl rl (fs.map Flt.enc)],.iptr [sl rg (good.map W.enc)]]
theorem d2t (nodes:List Nd) (rl rg:Rep) (fs:List Flt) (good:List W) (hf:∀ f ∈ fs,FltOk nodes f) (hfl:fs.length ≤ 64) (hg:good.length = nodes.length) (rr:Rep) (l:List Nat) (hl:∀ j ∈ l,j < fs.length) (hll:l.length ≤ 1000) (w:W) :
 f7x L.env Mf 48 [.agg w.enc,sl rr (l.map nR),.iptr [sl rl (fs.map Flt.enc)],.iptr [sl rg (good.map W.enc)]] [] = some (.agg (b4y fs good l w).enc,[]):=by
 simp only [W.enc]
 (refine sv Tryz.f48 ?_;simp only [Tryz.f48,gS])
 (repeat first|simp only [ww]|(apply xa;simp +decide only [go_sem];rfl;kernel_rfl))
 refine a0w (σ:=Nat) kp48_0 (fun i=>[(2,.iptr [sl rl (fs.map Flt.enc)]),(3,.iptr [sl rg (good.map W.enc)]),(4,.ptr 0 0 0),(6,.ptr 1 0 0),(10,sl rr (l.map nR)),(11,.int .i64 l.length),(12,.int .i64 i)])
  (fun i=>[some (.row 2 [(b4y fs good (l.take i) w).enc]),some (.row 2 [zW.enc])]) (fun i=>l.length - i) (fun i=>i ≤ l.length) 0 ?_ (Nat.zero_le _) ?_
 ·have e0:b4y fs good (l.take 0) w = w:=rfl
  (simp +decide only [go_sem,a01,a00,e0,W.enc,a1u,a2y]<;>rfl)<;>rfl
 ·intro i hi
  by_cases hlt:i < l.length
  ·obtain ⟨j,hj⟩:∃ j,l[i]? = some j:=⟨_,List.getElem?_eq_getElem hlt⟩
   have hjf:=hl j (List.mem_of_getElem? hj)
   obtain ⟨f,hfj⟩:∃ f,fs[j]? = some f:=⟨_,List.getElem?_eq_getElem hjf⟩
   have hfm:=hf f (List.mem_of_getElem? hfj)
   have hs:=c6q (fs:=fs) (good:=good) (w:=w) hj
   have hD:fs.getD j fD = f:=by rw [List.getD_eq_getElem?_getD,hfj];rfl
   rw [hD] at hs
   generalize b4y fs good (l.take i) w = u at hs
   have c1:(i:Int) < l.length:=by omega
   have hwi:=wI1 (n:=i) (by omega)
   have hv:=hfm.value
   by_cases hm:f.model = 0
   ·have hvv:d57 good f j = f.value:=if_pos hm
    rw [hvv] at hs
    have hpc:=fun H=>b5p (d:=false) H u j f.value (by omega) (by omega)
    generalize a6t u j f.value = y at hpc hs
    have cm:((f.model:Nat):Int) = 0:=by omega
    simp only [W.enc] at hpc
    simp only [W.enc]
    (repeat first|simp only [ww]|(apply xa;simp +decide only [go_sem,c1,hlt,hj,hjf,hfj,hwi,hpc,cm,nR,Flt.enc];rfl;kernel_rfl))
    refine a1w (i + 1) ?_ (by omega) (by omega)
    rw [hs]
    (simp +decide only [go_sem,a01,a00]<;>rfl)
   ·have hvv:d57 good f j = atW (a15 a2m good f) j:=if_neg hm
    rw [hvv] at hs
    have hb:=fun H=>b9u (d:=true) H nodes f hfm hm rg good hg
    generalize a15 a2m good f = v at hb hs
    have hat:=fun H=>c0c (d:=true) H v j (by omega)
    have hal:=e2b v j
    have hpc:=fun H=>b5p (d:=false) H u j (atW v j) (by omega) (by omega)
    generalize a6t u j (atW v j) = y at hpc hs
    have cm:¬ ((f.model:Nat):Int) = 0:=by omega
    simp only [W.enc] at hpc hb hat
    simp only [Flt.enc] at hb
    simp only [W.enc]
    (repeat first|simp only [ww]|(apply xa;simp +decide only [go_sem,c1,hlt,hj,hjf,hfj,hwi,hpc,cm,nR,Flt.enc,hb,hat];rfl;kernel_rfl))
    refine a1w (i + 1) ?_ (by omega) (by omega)
    rw [hs]
    (simp +decide only [go_sem,a01,a00]<;>rfl)
  ·obtain rfl:i = l.length:=by omega
   have c1:¬ (l.length:Int) < l.length:=by omega
   rw [List.take_length]
   (repeat first|simp only [ww]|(apply xa;simp +decide only [go_sem,c1];rfl;kernel_rfl))
   (apply f6w;simp +decide only [go_sem]<;>rfl)
theorem b6c {d:Bool} (H:a04) (nodes:List Nd) (rl rg:Rep) (fs:List Flt) (good:List W) (hf:∀ f ∈ fs,FltOk nodes f) (hfl:fs.length ≤ 64) (hg:good.length = nodes.length) (rr:Rep) (l:List Nat) (hl:∀ j ∈ l,j < fs.length) (hll:l.length ≤ 1000) (w:W) :
 a0e L.env d (f7x L.env Mf) (b0e rl rg fs good) [.agg w.enc,sl rr (l.map nR)] H = some (.agg (b4y fs good l w).enc,H,[]):=
 a03 (by kernel_rfl) (by kernel_rfl) rfl (by simp only [List.nil_append,List.append_nil,List.cons_append,a08,a10,c6j,a1z,W.enc,go_sem]) (d2t nodes rl rg fs good hf hfl hg rr l hl hll w) rfl
open Go.Proofs Go.Ax Go.Pc
set_option maxRecDepth 100000
def b1p (n:Nat):AV:=.int .i64 n
def b46 (p:Nat × Nat):AV:=.agg [.int .i64 p.1,.int .i64 p.2]
theorem d7z (x y:Nat):((x:Int) == (y:Int)) = decide (x = y):=by
 rw [Bool.eq_iff_iff,beq_iff_eq,decide_eq_true_eq];omega
theorem keyI:KeyOk L.env 118 3 35 b1p:=by
 refine ⟨by kernel_rfl,by kernel_rfl,fun x=>by kernel_rfl,fun x y=>?_,fun x=>by simp [b1p,c1j,b6j]⟩
 have h:a4n L.env 6 3 (b1p x) (b1p y) = some ((x:Int) == (y:Int)):=by kernel_rfl
 rw [h,d7z]
theorem keyP:KeyOk L.env 119 52 35 b46:=by
 refine ⟨by kernel_rfl,by kernel_rfl,fun x=>by kernel_rfl,fun x y=>?_,fun x=>by simp [b46,c1j,b6j,b4o]⟩
 have h:a4n L.env 6 52 (b46 x) (b46 y) = some (((x.1:Int) == (y.1:Int)) && (((x.2:Int) == (y.2:Int)) && true)):=by kernel_rfl
 rw [h,d7z,d7z,Bool.and_true]
 congr 1
 rw [Bool.eq_iff_iff,Bool.and_eq_true,decide_eq_true_eq,decide_eq_true_eq,decide_eq_true_eq]
 exact ⟨fun ⟨a,b⟩=>Prod.ext a b,fun h=>by rw [h];exact ⟨rfl,rfl⟩⟩
theorem a9w (x:Nat):refs (b1p x) = []:=rfl
theorem a9v (x:Nat × Nat):refs (b46 x) = []:=rfl
theorem zSl:L.env.zero 35 = some [.nilslice]:=by kernel_rfl
theorem uSl:∃ d,L.env.und 35 = some d ∧ a7h d [.nilslice] = some .nilslice:=⟨.slice 3,by kernel_rfl,rfl⟩
def c8w (rl rg:Rep) (fs:List Flt) (good:List W) (es:List (Nat × List Nat)):AV:=.func (.func 52) [] [.iptr [b0e rl rg fs good],.iptr [b15 b1p es]]
def c8v (rl rg:Rep) (fs:List Flt) (good:List W) (es:List ((Nat × Nat) × List Nat)):AV:=.func (.func 53) [] [.iptr [b0e rl rg fs good],.iptr [b15 b46 es]]
theorem d2s (nodes:List Nd) (rl rg:Rep) (fs:List Flt) (good:List W) (es:List (Nat × List Nat)) (hf:∀ f ∈ fs,FltOk nodes f) (hfl:fs.length ≤ 64) (hg:good.length = nodes.length) (n:Nat) (hl:∀ j ∈ atE n es,j < fs.length) (hll:(atE n es).length ≤ 1000) (w:W) :
 f7x L.env Mf 52 [.int .i64 n,.agg w.enc,.iptr [b0e rl rg fs good],.iptr [b15 b1p es]] [] = some (.agg (b4y fs good (atE n es) w).enc,[]):=by
 obtain ⟨d,hd,hz1⟩:=uSl
 obtain ⟨rr,hlk⟩:=keyI.ilook zSl hd hz1 es n
 have hc:=fun H=>b6c (d:=false) H nodes rl rg fs good hf hfl hg rr (atE n es) hl hll w
 have hlk:∀ h,a2w L.env h 118 (b15 b1p es) (.int .i64 n) false = _:=hlk
 generalize b4y fs good (atE n es) w = y at hc
 generalize atE n es = l at hc hlk
 unfold b0e at hc ⊢
 unfold b15 at hlk ⊢
 simp only [W.enc] at hc ⊢
 (refine sv Tryz.f52 ?_;simp only [Tryz.f52,gS])
 (repeat first|simp only [ww]|(apply xa;simp +decide only [go_sem,hlk,hc];rfl;kernel_rfl))
 (apply f6w;simp +decide only [go_sem]<;>rfl)
theorem d2r (nodes:List Nd) (rl rg:Rep) (fs:List Flt) (good:List W) (es:List ((Nat × Nat) × List Nat)) (hf:∀ f ∈ fs,FltOk nodes f) (hfl:fs.length ≤ 64) (hg:good.length = nodes.length) (n p:Nat) (hl:∀ j ∈ atE (n,p) es,j < fs.length) (hll:(atE (n,p) es).length ≤ 1000) (w:W) :
 f7x L.env Mf 53 [.int .i64 n,.int .i64 p,.agg w.enc,.iptr [b0e rl rg fs good],.iptr [b15 b46 es]] [] = some (.agg (b4y fs good (atE (n,p) es) w).enc,[]):=by
 obtain ⟨d,hd,hz1⟩:=uSl
 obtain ⟨rr,hlk⟩:=keyP.ilook zSl hd hz1 es (n,p)
 have hc:=fun H=>b6c (d:=true) H nodes rl rg fs good hf hfl hg rr (atE (n,p) es) hl hll w
 have hlk:∀ h,a2w L.env h 119 (b15 b46 es) (.agg [.int .i64 n,.int .i64 p]) false = _:=hlk
 generalize b4y fs good (atE (n,p) es) w = y at hc
 generalize atE (n,p) es = l at hc hlk
 unfold b0e at hc ⊢
 unfold b15 at hlk ⊢
 simp only [W.enc] at hc ⊢
 (refine sv Tryz.f53 ?_;simp only [Tryz.f53,gS])
 (repeat first|simp only [ww]|(apply xa;simp +decide only [go_sem,hlk,hc];rfl;kernel_rfl))
 (apply f6w;simp +decide only [go_sem]<;>rfl)
theorem e1t (nodes:List Nd) (rl rg:Rep) (fs:List Flt) (good:List W) (es:List (Nat × List Nat)) (hf:∀ f ∈ fs,FltOk nodes f) (hfl:fs.length ≤ 64) (hg:good.length = nodes.length) (hl:∀ n,∀ j ∈ atE n es,j < fs.length) (hll:∀ n,(atE n es).length ≤ 1000):NetF nodes.length (c8w rl rg fs good es) (fun n w=>b4y fs good (atE n es) w):=
 ⟨rfl,fun d H n w _=>a03 (by kernel_rfl) (by kernel_rfl) rfl rfl (d2s nodes rl rg fs good es hf hfl hg n (hl n) (hll n) w) rfl⟩
theorem e1s (nodes:List Nd) (rl rg:Rep) (fs:List Flt) (good:List W) (es:List ((Nat × Nat) × List Nat)) (hf:∀ f ∈ fs,FltOk nodes f) (hfl:fs.length ≤ 64) (hg:good.length = nodes.length) (hl:∀ n,∀ j ∈ atE n es,j < fs.length) (hll:∀ n,(atE n es).length ≤ 1000):PinF nodes.length (c8v rl rg fs good es) (fun n p w=>b4y fs good (atE (n,p) es) w):=
 ⟨rfl,fun d H n p w _=>a03 (by kernel_rfl) (by kernel_rfl) rfl rfl (d2r nodes rl rg fs good es hf hfl hg n p (hl (n,p)) (hll (n,p)) w) rfl⟩
set_option maxHeartbeats 200000000
open Go.Proofs Go.Ax Go.Pc
set_option maxRecDepth 100000
/-- The lists of faults that touch a net, a pin. -/
structure EachOk (fs:List Flt) (i:Nat) (esN:List (Nat × List Nat)) (esP:List ((Nat × Nat) × List Nat)):Prop where
 net:∀ n,atE n esN = (List.range i).filter fun j=>(fs.getD j fD).hitsNet n
 pin:∀ p:Nat × Nat,atE p esP = (List.range i).filter fun j=>(fs.getD j fD).hitsPin p.1 p.2
 nl:esN.length ≤ 2 * i
 pl:esP.length ≤ i
theorem b2o {α:Type} [DecidableEq α] (es:List (α × List Nat)) (x:α) (i:Nat):(a90 es x i).length ≤ es.length + 1:=by
 unfold a90;split<;>simp
theorem EachOk.next {fs:List Flt} {i:Nat} {esN esN':List (Nat × List Nat)} {esP esP':List ((Nat × Nat) × List Nat)} (h:EachOk fs i esN esP) {f:Flt} (hf:fs.getD i fD = f) (hN:∀ n,atE n esN' = if f.hitsNet n then atE n esN ++ [i] else atE n esN) (hP:∀ p:Nat × Nat,atE p esP' = if f.hitsPin p.1 p.2 then atE p esP ++ [i] else atE p esP) (l1:esN'.length ≤ esN.length + 2) (l2:esP'.length ≤ esP.length + 1):EachOk fs (i + 1) esN' esP':=by
 have h1:=h.nl
 have h2:=h.pl
 refine ⟨fun n=>?_,fun p=>?_,by omega,by omega⟩
 ·rw [hN,List.range_succ,List.filter_append,h.net n]
  by_cases hh:f.hitsNet n
  ·rw [if_pos hh];simp only [List.filter_cons,List.filter_nil,hf,hh,if_true]
  ·rw [if_neg hh];simp only [List.filter_cons,List.filter_nil,hf,hh,if_false,Bool.false_eq_true,List.append_nil]
 ·rw [hP,List.range_succ,List.filter_append,h.pin p]
  by_cases hh:f.hitsPin p.1 p.2
  ·rw [if_pos hh];simp only [List.filter_cons,List.filter_nil,hf,hh,if_true]
  ·rw [if_neg hh];simp only [List.filter_cons,List.filter_nil,hf,hh,if_false,Bool.false_eq_true,List.append_nil]
def d53:List AV:=[.nilslice,.nilslice,.nilslice,.nilslice,.nilslice,.nilslice,.nilslice,.nilfunc,.nilfunc]
structure EachSt (E9:List AV) (FV GV:AV) (H:a04) (eb fb gb rb nc nb pc pb:Nat) (nids pids:Nat → Nat) (esN:List (Nat × List Nat)) (esP:List ((Nat × Nat) × List Nat)):Prop where
 e:a02 H eb = some (.row 9 [E9])
 f:a02 H fb = some (.row 1 [[FV]])
 g:a02 H gb = some (.row 1 [[GV]])
 r:a02 H rb = some (.row 9 [d53])
 n:MSl b1p H nc nb nids esN
 p:MSl b46 H pc pb pids esP
 bb:nb ≠ pb
 ii:∀ j k,j < esN.length → k < esP.length → nids j ≠ pids k
section
variable {E9:List AV} {FV GV:AV} {H H1:a04} {eb fb gb rb nc nb pc pb:Nat} {nids pids:Nat → Nat} {esN:List (Nat × List Nat)} {esP:List ((Nat × Nat) × List Nat)}
theorem EachSt.more {L:a04} (h:EachSt E9 FV GV H eb fb gb rb nc nb pc pb nids pids esN esP):EachSt E9 FV GV (H ++ L) eb fb gb rb nc nb pc pb nids pids esN esP:=
 ⟨by rw [a1x (eq_true (a0r h.e))];exact h.e,by rw [a1x (eq_true (a0r h.f))];exact h.f,by rw [a1x (eq_true (a0r h.g))];exact h.g,by rw [a1x (eq_true (a0r h.r))];exact h.r,h.n.more,h.p.more,h.bb,h.ii⟩
/-- A row of one cell that is no number is none of a map's. -/
theorem _root_.Go.Ax.MSl.other {α:Type} [DecidableEq α] {enc:α → AV} {H:a04} {c b:Nat} {ids:Nat → Nat} {es:List (α × List Nat)} (h:MSl enc H c b ids es) {d:Nat} {k:Nat} {rows:List (List AV)} (hd:a02 H d = some (.row k rows)) (hk:∀ l:List Nat,k = 1 → rows ≠ l.map nR):d ≠ b ∧ ∀ j,j < es.length → d ≠ ids j:=by
 refine ⟨fun e=>?_,fun j hj e=>?_⟩
 ·rw [e,h.top] at hd;cases hd
 ·obtain ⟨x,hx⟩:∃ x,es[j]? = some x:=⟨_,List.getElem?_eq_getElem hj⟩
  rw [e,h.sub j x hx] at hd
  cases hd
  exact hk _ rfl rfl
theorem b8t {v:AV} (hv:∀ k n,v ≠ .int k n) (l:List Nat):[[v]] ≠ l.map nR:=by
 cases l with
 | nil=>simp
 | cons a r=>simp only [List.map_cons,nR];intro e;injection e with e1 e2;injection e1 with e3;exact hv _ _ e3
theorem b1y (c:Rep) (rows:List (List AV)):∀ k n,sl c rows ≠ .int k n:=by intro k n;cases c<;>cases rows<;>simp [sl]
theorem _root_.Go.Ax.MSl.posl {α:Type} [DecidableEq α] {x:α} {es:List (α × List Nat)} {j:Nat} (h:a76 x (es.map (·.1)) = some j):j < es.length:=by simpa using (List.getElem?_eq_some_iff.1 (a3l h)).1
theorem EachSt.addN (hf:∀ k n,FV ≠ .int k n) (hg:∀ k n,GV ≠ .int k n) (h:EachSt E9 FV GV H eb fb gb rb nc nb pc pb nids pids esN esP) (x i n:Nat) (hn:H.length ≤ n) (h1:a02 H1 nb = some (MSl.obj b1p nids esN x n)) (h2:a02 H1 n = some (.row 1 ((atE x esN ++ [i]).map nR)))
 (h3:∀ d,d < H.length → d ≠ nb → (∀ j,a76 x (esN.map (·.1)) = some j → d ≠ nids j) → a02 H1 d = a02 H d):∃ nids2,EachSt E9 FV GV H1 eb fb gb rb nc nb pc pb nids2 pids (a90 esN x i) esP:=by
 obtain ⟨nids2,hN,hid,_⟩:=h.n.add x i n hn h1 h2 h3
 have key:∀ d k rows,a02 H d = some (.row k rows) → (∀ l:List Nat,k = 1 → rows ≠ l.map nR) → a02 H1 d = some (.row k rows):=by
  intro d k rows hd hk
  obtain ⟨o1,o2⟩:=h.n.other hd hk
  rw [h3 d (a0r hd) o1 (fun j hj=>o2 j (MSl.posl hj)),hd]
 have hpl:=h.p.lt
 refine ⟨nids2,key _ _ _ h.e (fun l e=>absurd e (by omega)),key _ _ _ h.f (fun l _=>b8t hf l),key _ _ _ h.g (fun l _=>b8t hg l),key _ _ _ h.r (fun l e=>absurd e (by omega)),hN,?_,h.bb,?_⟩
 ·refine h.p.same fun d hd=>?_
  refine h3 d (hpl d hd) ?_ ?_
  ·rcases MSl.mem_blocks.1 hd with rfl|rfl|⟨k,hk,rfl⟩
   ·exact (h.n.other h.p.cell (fun l _=>b8t (by intro k n;simp) l)).1
   ·exact Ne.symm h.bb
   ·intro e
    obtain ⟨y,hy⟩:∃ y,esP[k]? = some y:=⟨_,List.getElem?_eq_getElem hk⟩
    have:=h.p.sub k y hy
    rw [e,h.n.top] at this;cases this
  ·intro j hj
   have hjl:=MSl.posl hj
   rcases MSl.mem_blocks.1 hd with rfl|rfl|⟨k,hk,rfl⟩
   ·exact (h.n.other h.p.cell (fun l _=>b8t (by intro k n;simp) l)).2 j hjl
   ·intro e
    obtain ⟨y,hy⟩:∃ y,esN[j]? = some y:=⟨_,List.getElem?_eq_getElem hjl⟩
    have:=h.n.sub j y hy
    rw [← e,h.p.top] at this;cases this
   ·exact fun e=>h.ii j k hjl hk e.symm
 ·intro j k hj hk e
  have hkl:=hpl (pids k) (MSl.mem_blocks.2 (.inr (.inr ⟨k,hk,rfl⟩)))
  rcases hid j hj with e1|⟨hj2,e1⟩
  ·omega
  ·exact h.ii j k hj2 hk (by rw [← e1];exact e)
theorem EachSt.addP (hf:∀ k n,FV ≠ .int k n) (hg:∀ k n,GV ≠ .int k n) (h:EachSt E9 FV GV H eb fb gb rb nc nb pc pb nids pids esN esP) (x:Nat × Nat) (i n:Nat) (hn:H.length ≤ n) (h1:a02 H1 pb = some (MSl.obj b46 pids esP x n)) (h2:a02 H1 n = some (.row 1 ((atE x esP ++ [i]).map nR)))
 (h3:∀ d,d < H.length → d ≠ pb → (∀ j,a76 x (esP.map (·.1)) = some j → d ≠ pids j) → a02 H1 d = a02 H d):∃ pids2,EachSt E9 FV GV H1 eb fb gb rb nc nb pc pb nids pids2 esN (a90 esP x i):=by
 obtain ⟨pids2,hP,hid,_⟩:=h.p.add x i n hn h1 h2 h3
 have key:∀ d k rows,a02 H d = some (.row k rows) → (∀ l:List Nat,k = 1 → rows ≠ l.map nR) → a02 H1 d = some (.row k rows):=by
  intro d k rows hd hk
  obtain ⟨o1,o2⟩:=h.p.other hd hk
  rw [h3 d (a0r hd) o1 (fun j hj=>o2 j (MSl.posl hj)),hd]
 have hpl:=h.n.lt
 refine ⟨pids2,key _ _ _ h.e (fun l e=>absurd e (by omega)),key _ _ _ h.f (fun l _=>b8t hf l),key _ _ _ h.g (fun l _=>b8t hg l),key _ _ _ h.r (fun l e=>absurd e (by omega)),?_,hP,h.bb,?_⟩
 ·refine h.n.same fun d hd=>?_
  refine h3 d (hpl d hd) ?_ ?_
  ·rcases MSl.mem_blocks.1 hd with rfl|rfl|⟨k,hk,rfl⟩
   ·exact (h.p.other h.n.cell (fun l _=>b8t (by intro k n;simp) l)).1
   ·exact h.bb
   ·intro e
    obtain ⟨y,hy⟩:∃ y,esN[k]? = some y:=⟨_,List.getElem?_eq_getElem hk⟩
    have:=h.n.sub k y hy
    rw [e,h.p.top] at this;cases this
  ·intro j hj
   have hjl:=MSl.posl hj
   rcases MSl.mem_blocks.1 hd with rfl|rfl|⟨k,hk,rfl⟩
   ·exact (h.p.other h.n.cell (fun l _=>b8t (by intro k n;simp) l)).2 j hjl
   ·intro e
    obtain ⟨y,hy⟩:∃ y,esP[j]? = some y:=⟨_,List.getElem?_eq_getElem hjl⟩
    have:=h.p.sub j y hy
    rw [← e,h.n.top] at this;cases this
   ·exact fun e=>h.ii k j hk hjl e
 ·intro j k hj hk e
  have hkl:=hpl (nids j) (MSl.mem_blocks.2 (.inr (.inr ⟨j,hj,rfl⟩)))
  rcases hid k hk with e1|⟨hk2,e1⟩
  ·omega
  ·exact h.ii j k hj hk2 (by rw [← e1];exact e)
end
def JJ (rl rg:Rep) (fs:List Flt) (good:List W) (E9:List AV):Nat → Frm → a04 → Prop:=(fun N F H1=>∃ (i eb fb gb rb nc nb pc pb:Nat) (nids pids:Nat → Nat) (esN:List (Nat × List Nat)) (esP:List ((Nat × Nat) × List Nat)),N = fs.length - i ∧ i ≤ fs.length ∧ F = [(3,.ptr eb 0 0),(4,.ptr fb 0 0),(5,.ptr gb 0 0),(6,.ptr rb 0 0),(7,.ptr nc 0 0),(8,.ptr pc 0 0),(14,sl rl (fs.map Flt.enc)),(15,.int .i64 fs.length),(16,.int .i64 (i:Nat))] ∧ EachSt E9 (sl rl (fs.map Flt.enc)) (sl rg (good.map W.enc)) H1 eb fb gb rb nc nb pc pb nids pids esN esP ∧ EachOk fs i esN esP)
theorem FlatO.single {k:Nat} {v:AV} (h:refs v = []):FlatO (some (.row k [[v]])):=FlatO.row (FlatR.cons (by simp [a0l,h]) FlatR.nil)
theorem b0d (rl rg:Rep) (fs:List Flt) (good:List W) (E9:List AV) (F:Frm) (H2:a04) (i eb fb gb rb nc nb pc pb:Nat) (nids pids:Nat → Nat) (esN:List (Nat × List Nat)) (esP:List ((Nat × Nat) × List Nat)) (hi:i ≤ fs.length) (hkF:a29 [3,4,5,6,7,8,14,15,16] F = [(3,.ptr eb 0 0),(4,.ptr fb 0 0),(5,.ptr gb 0 0),(6,.ptr rb 0 0),(7,.ptr nc 0 0),(8,.ptr pc 0 0),(14,sl rl (fs.map Flt.enc)),(15,.int .i64 fs.length),(16,.int .i64 (i:Nat))])
 (hS:EachSt E9 (sl rl (fs.map Flt.enc)) (sl rg (good.map W.enc)) H2 eb fb gb rb nc nb pc pb nids pids esN esP) (hO:EachOk fs i esN esP) (hE:a0l E9 = []) (hfl:fs.length ≤ 64) :
 ∃ F1 H1,gcD 0 [3,4,5,6,7,8,14,15,16] F H2 = some (F1,H1) ∧ JJ rl rg fs good E9 (fs.length - i) F1 H1:=by
 have hrefs:a0l ((a29 [3,4,5,6,7,8,14,15,16] F).map (·.2)) = [eb,fb,gb,rb,nc,pc]:=by rw [hkF];simp only [List.map_cons,List.map_nil,a08,a1z,a2i,d13,b0z,c21,List.append_nil,List.nil_append,List.cons_append]
 have hER:FlatR [E9]:=FlatR.cons hE FlatR.nil
 have hZR:FlatR [d53]:=FlatR.cons rfl FlatR.nil
 have he:=hS.e
 have hff:=hS.f
 have hg:=hS.g
 have hr:=hS.r
 have h1:a14 (a02 H2 eb) = []:=by rw [he];exact a0t hER
 have h2:a14 (a02 H2 fb) = []:=by rw [hff];simp only [go_sem]
 have h3:a14 (a02 H2 gb) = []:=by rw [hg];simp only [go_sem]
 have h4:a14 (a02 H2 rb) = []:=by rw [hr];exact a0t hZR
 have hcn:=hS.n.cost a9w
 have hcp:=hS.p.cost a9v
 have hnl:=hO.nl
 have hpl:=hO.pl
 refine e19 (Nat.zero_le _) (eb :: fb :: gb :: rb :: (MSl.blocks nc nb nids esN.length ++ MSl.blocks pc pb pids esP.length)) ?_ (fun x hx=>by omega) ?_ ?_ (by rw [hrefs];simp) ?_
 ·rw [hrefs];intro x hx;simp only [List.mem_cons,List.not_mem_nil,or_false,List.mem_append] at hx ⊢
  have m1:nc ∈ MSl.blocks nc nb nids esN.length:=MSl.mem_blocks.2 (.inl rfl)
  have m2:pc ∈ MSl.blocks pc pb pids esP.length:=MSl.mem_blocks.2 (.inl rfl)
  rcases hx with rfl|rfl|rfl|rfl|rfl|rfl<;>simp [m1,m2]
 ·intro x hx y hy
  simp only [List.mem_cons,List.mem_append] at hx ⊢
  rcases hx with rfl|rfl|rfl|rfl|hx|hx
  ·rw [h1] at hy;simp at hy
  ·rw [h2] at hy;simp at hy
  ·rw [h3] at hy;simp at hy
  ·rw [h4] at hy;simp at hy
  ·simp [hS.n.closed a9w x hx y hy]
  ·simp [hS.p.closed a9v x hx y hy]
 ·simp only [List.map_cons,List.sum_cons,List.map_append,List.sum_append,h1,h2,h3,h4,List.length_nil];omega
 ·intro R π H1 hgc hl1
  have hR:∀ x ∈ [eb,fb,gb,rb,nc,pc],R x:=fun x hx=>hgc.refs x (by rw [hrefs];exact hx)
  obtain ⟨eb',ee⟩:=hgc.here eb (hR eb (by simp))
  obtain ⟨fb',ef⟩:=hgc.here fb (hR fb (by simp))
  obtain ⟨gb',eg⟩:=hgc.here gb (hR gb (by simp))
  obtain ⟨rb',er⟩:=hgc.here rb (hR rb (by simp))
  obtain ⟨nc',nb',nids',en1,en2,en3,hN⟩:=hS.n.mv a9w hgc.mv (hR nc (by simp))
  obtain ⟨pc',pb',pids',ep1,ep2,ep3,hP⟩:=hS.p.mv a9v hgc.mv (hR pc (by simp))
  refine ⟨i,eb',fb',gb',rb',nc',nb',pc',pb',nids',pids',esN,esP,rfl,hi,?_,⟨?_,?_,?_,?_,hN,hP,?_,?_⟩,hO⟩
  ·rw [hkF]
   simp +decide only [go_sem,ee,ef,eg,er,en1,ep1]
  ·rw [hgc.heap _ _ ee,he];exact FlatO.row hER _
  ·rw [hgc.heap _ _ ef,hff];exact FlatO.single (a2i _ _) _
  ·rw [hgc.heap _ _ eg,hg];exact FlatO.single (a2i _ _) _
  ·rw [hgc.heap _ _ er,hr];exact FlatO.row hZR _
  ·intro e;rw [e] at en2;exact hS.bb (hgc.inj _ _ _ en2 ep2)
  ·intro j k hj hk e
   have e1:=en3 j hj
   have e2:=ep3 k hk
   rw [e] at e1
   exact hS.ii j k hj hk (hgc.inj _ _ _ e1 e2)
theorem d7k (c:Cir) (hc:c.wf) (ord:List Nat) (rl rg:Rep) (fs:List Flt) (good:List W) (hf:∀ f ∈ fs,FltOk c.nodes f) (hfl:fs.length ≤ 64) (hg:good.length = c.nodes.length) :
 ∃ r:AV × a04,(∃ esN esP,EachOk fs fs.length esN esP ∧ r = (.agg (b0u c ord (c8w rl rg fs good esN) (c8v rl rg fs good esP)),[])) ∧ f7x L.env Mf 24 [.agg (b0u c ord net0V pin0V),sl rl (fs.map Flt.enc),sl rg (good.map W.enc)] [] = some r:=by
 have hnl:=hc.len
 obtain ⟨r0,e3⟩:=a2u (kinds c.nodes 0)
 obtain ⟨r1,e4⟩:=a2u (kinds c.nodes 14)
 have hEe:∀ net pin,b0u c ord net pin = [sl c.nc (c.nodes.map Nd.enc),sl c.mc (c.names.map a1r),.nilslice,sl c.oc (c.outs.map a0f),.islice (ord.map a0f) (some c.nodes.length),sl r0 ((kinds c.nodes 0).map a0f),sl r1 ((kinds c.nodes 14).map a0f),net,pin]:=by intro net pin;unfold b0u;rw [e3,e4]
 have hs0:net0V.storable = true:=rfl
 have hs1:pin0V.storable = true:=rfl
 have hr0:refs net0V = []:=rfl
 have hr1:refs pin0V = []:=rfl
 have hj0:net0V.cells = [net0V]:=rfl
 have hj1:pin0V.cells = [pin0V]:=rfl
 rw [hEe net0V]
 (refine svE Tryz.f24 ?_;simp only [Tryz.f24,gS])
 (repeat first|simp only [ww]|(apply xa;simp +decide only [go_sem,hs0,hs1,hj0,hj1];rfl;kernel_rfl))
 have hE:a0l ([sl c.nc (c.nodes.map Nd.enc),sl c.mc (c.names.map a1r),.nilslice,sl c.oc (c.outs.map a0f),.islice (ord.map a0f) (some c.nodes.length),sl r0 ((kinds c.nodes 0).map a0f),sl r1 ((kinds c.nodes 14).map a0f),net0V,pin0V]:List AV) = []:=by simp +decide only [go_sem,hr0,hr1]
 generalize hE9:([sl c.nc (c.nodes.map Nd.enc),sl c.mc (c.names.map a1r),.nilslice,sl c.oc (c.outs.map a0f),.islice (ord.map a0f) (some c.nodes.length),sl r0 ((kinds c.nodes 0).map a0f),sl r1 ((kinds c.nodes 14).map a0f),net0V,pin0V]:List AV) = E9 at hE ⊢
 refine a3i kp24_0 (JJ rl rg fs good E9) (fs.length - 0) ?_ ?_
 ·refine b0d rl rg fs good _ _ _ 0 0 1 2 3 6 4 7 5 (fun _=>0) (fun _=>0) [] [] (Nat.zero_le _) (by simp +decide only [go_sem,a29]<;>rfl) ⟨rfl,rfl,rfl,rfl,⟨rfl,rfl,fun j e he=>by simp at he,fun j k hj=>by simp at hj⟩,⟨rfl,rfl,fun j e he=>by simp at he,fun j k hj=>by simp at hj⟩,by omega,fun j k hj=>by simp at hj⟩ ⟨fun n=>rfl,fun p=>rfl,by simp,by simp⟩ hE hfl
 ·rintro N F H1 ⟨i,eb,fb,gb,rb,nc,nb,pc,pb,nids,pids,esN,esP,rfl,hi,rfl,hS,hO⟩
  by_cases hlt:i < fs.length
  ·have c1:(i:Int) < fs.length:=by omega
   have hwi:=wI1 (n:=i) (by omega)
   obtain ⟨f,hfi⟩:∃ f,fs[i]? = some f:=⟨_,List.getElem?_eq_getElem hlt⟩
   have hfm:=hf f (List.mem_of_getElem? hfi)
   have hD:fs.getD i fD = f:=by rw [List.getD_eq_getElem?_getD,hfi];rfl
   by_cases hp:f.pin < 0
   ·have cp:¬ 0 ≤ f.pin:=by omega
    (repeat first|simp only [ww]|(apply xa;simp +decide only [go_sem,c1,hlt,hfi,cp,Flt.enc,a2e,a38,a5d,a6y,a4b];rfl;kernel_rfl))
    have hS2:=hS.more (L:=[some (AObj.row 5 [f.enc])])
    have htb:a02 (H1 ++ [some (AObj.row 5 [f.enc])]) H1.length = some (AObj.row 5 [f.enc]):=a2e
    simp only [Flt.enc] at hS2 htb
    generalize H1 ++ [some (AObj.row 5 [_])] = Hs at hS2 htb ⊢
    generalize H1.length = tb at htb ⊢
    refine d3w (fun F1 H2=>∃ v34 v35 v36 v37 v38 v39 v40 v41 v42 v43 v44 v45 nids2,F1 = (45,v45) :: (44,v44) :: (43,v43) :: (42,v42) :: (41,v41) :: (40,v40) :: (39,v39) :: (38,v38) :: (37,v37) :: (36,v36) :: (35,v35) :: (34,v34) :: ([(24,.bool false),(23,.int .i64 f.pin),(22,.ptr tb 0 2),(21,.ptr tb 0 1),(9,.int .i64 i),(10,.ptr tb 0 0),(20,.agg [.int .u8 f.model,.int .i64 f.node,.int .i64 f.pin,.int .u8 f.value,.int .i64 f.other]),(19,.iptr [.int .u8 f.model,.int .i64 f.node,.int .i64 f.pin,.int .u8 f.value,.int .i64 f.other]),(18,.int .i64 i),(17,.bool true),(3,.ptr eb 0 0),(4,.ptr fb 0 0),(5,.ptr gb 0 0),(6,.ptr rb 0 0),(7,.ptr nc 0 0),(8,.ptr pc 0 0),(14,sl rl (fs.map Flt.enc)),(15,.int .i64 fs.length),(16,.int .i64 (i:Nat))]:Frm) ∧ EachSt E9 (sl rl (fs.map Flt.enc)) (sl rg (good.map W.enc)) H2 eb fb gb rb nc nb pc pb nids2 pids (a90 esN f.node i) esP ∧ a02 H2 tb = some (.row 5 [f.enc])) ?_ ?_
    ·have hc1:=hS2.n.cell
     have hc2:=hS2.n.top
     have hl1:=a0r hc1
     have hl2:=a0r hc2
     have hl3:=a0r htb
     have hbc:=hS2.n.bc
     obtain ⟨ot1,ot2⟩:=hS2.n.other htb (fun l e=>absurd e (by omega))
     have ot3:tb ≠ nc:=by intro e;rw [e,hc1] at htb;cases htb
     obtain ⟨d,hd,hz1⟩:=uSl
     have hlk:=keyI.look zSl hd hz1 hc2 f.node
     have hup:=fun (H':a04) (hb:a02 H' nb = _) v=>keyI.update (h:=a02 H') (hb.trans hc2) f.node v
     cases hpos:a76 f.node (esN.map (·.1)) with
     | none=>
      rw [hpos] at hlk hup
      have hlk:a2w L.env (a02 Hs) 118 (.map nb) (.int .i64 f.node) false = some .nilslice:=hlk
      have hup:∀ (L1:a04) v,a1n L.env (a02 (Hs ++ L1)) 118 (.map nb) (.int .i64 f.node) v = _:=fun L1 v=>hup _ (a1x (eq_true hl2)) v
      refine b02 (by simp +decide only [go_sem,c1,Flt.enc,hc1,htb,hup,a2e,a38,a1x,a3t,a5d,a6y,a9s,List.length_set,a4b,a5k,List.append_assoc,List.cons_append,List.nil_append,hl1,hl2,hl3,hlk];rfl) ?_ ?_
      ·(repeat' (first|exact b2g|exact b29|refine b03 ?_ ?_|refine b28 (by simp only [List.length_cons,List.length_nil];decide +kernel) ?_|refine b2a (b0i (by simp<;>omega) (by simp<;>omega) (by simp<;>omega)) ?_))
      ·have hat:atE f.node esN = []:=by unfold atE;rw [hpos]
       have hobj:MSl.obj b1p nids esN f.node (Hs.length + 1) = .map ((esN.map (·.1)).map b1p ++ [b1p f.node]) ((esN.mapIdx fun j e=>.slice (nids j) 0 e.2.length none) ++ [.slice (Hs.length + 1) 0 1 none]) (List.range esN.length ++ [esN.length]) (esN.length + 1):=by unfold MSl.obj;rw [hpos,hat];rfl
       obtain ⟨nids2,hS3⟩:=EachSt.addN (H1:=Hs.set nb (some (MSl.obj b1p nids esN f.node (Hs.length + 1))) ++ [some (.row 1 [[.int .i64 i]]),some (.row 1 [[.int .i64 i]])]) (b1y _ _) (b1y _ _) hS2 f.node i (Hs.length + 1) (by omega) (by rw [a1l hl2,if_pos rfl]) (by rw [a67,hat];rfl) (fun d hd hn _=>by rw [a1l hd,if_neg (Ne.symm hn)])
       rw [hobj] at hS3
       exact ⟨_,_,_,_,_,_,_,_,_,_,_,_,nids2,rfl,hS3,by rw [a1l hl3,if_neg (Ne.symm ot1),htb];rfl⟩
     | some j=>
      rw [hpos] at hlk hup
      have hjl:=MSl.posl hpos
      obtain ⟨x,hx⟩:∃ x,esN[j]? = some x:=⟨_,List.getElem?_eq_getElem hjl⟩
      have hat:atE f.node esN = x.2:=by unfold atE;rw [hpos];simp [hx]
      have hsub:=hS2.n.sub j x hx
      obtain ⟨hj1,hj2⟩:=hS2.n.sub_c hjl
      have hj3:=ot2 j hjl
      have hjh:=a0r hsub
      have hlen:x.2.length + 1 ≤ 1000000000:=by
       have:=hO.net f.node
       rw [hat] at this
       have h2:=List.length_filter_le (fun j=>(fs.getD j fD).hitsNet f.node) (List.range i)
       rw [← this,List.length_range] at h2;omega
      rw [hat] at hlk
      have hlk:a2w L.env (a02 Hs) 118 (.map nb) (.int .i64 f.node) false = some (.slice (nids j) 0 x.2.length none):=hlk
      have hup:∀ (L1:a04) v,a1n L.env (a02 (Hs.set (nids j) none ++ L1)) 118 (.map nb) (.int .i64 f.node) v = _:=fun L1 v=>hup _ (by rw [a1l hl2,if_neg hj2]) v
      refine b02 (by simp +decide only [go_sem,c1,Flt.enc,hc1,htb,hup,a2e,a38,a1x,a3t,a5d,a6y,a9s,List.length_set,a4b,a5k,List.append_assoc,List.cons_append,List.nil_append,hl1,hl2,hl3,hlk,hsub,hlen,hjh];rfl) ?_ ?_
      ·(repeat' (first|exact b2g|exact b29|refine b03 ?_ ?_|refine b28 (by simp only [List.length_cons,List.length_nil];decide +kernel) ?_|refine b2a (b0i (by simp<;>omega) (by simp<;>omega) (by simp<;>omega)) ?_))
      ·have hobj:MSl.obj b1p nids esN f.node (Hs.length + 1) = .map ((esN.map (·.1)).map b1p) ((esN.mapIdx fun j e=>AV.slice (nids j) 0 e.2.length none).set j (.slice (Hs.length + 1) 0 (x.2.length + 1) none)) (List.range esN.length) esN.length:=by unfold MSl.obj;rw [hpos,hat]
       obtain ⟨nids2,hS3⟩:=EachSt.addN (H1:=(Hs.set (nids j) none).set nb (some (MSl.obj b1p nids esN f.node (Hs.length + 1))) ++ [some (.row 1 [[.int .i64 i]]),some (.row 1 (x.2.map nR ++ [[.int .i64 i]]))]) (b1y _ _) (b1y _ _) hS2 f.node i (Hs.length + 1) (by omega) (by rw [a32 hl2,if_pos rfl]) (by rw [a8s,hat,List.map_append];rfl) (fun d hd hn hq=>by rw [a32 hd,if_neg (Ne.symm hn),if_neg (Ne.symm (hq j hpos))])
       rw [hobj] at hS3
       exact ⟨_,_,_,_,_,_,_,_,_,_,_,_,nids2,rfl,hS3,by rw [a32 hl3,if_neg (Ne.symm ot1),if_neg (Ne.symm hj3),htb];rfl⟩
    ·rintro F1 H2 ⟨v34,v35,v36,v37,v38,v39,v40,v41,v42,v43,v44,v45,nids2,rfl,hS3,htb3⟩
     by_cases hm:f.model = 2
     ·have cm:((f.model:Nat):Int) = 2:=by omega
      simp only [Flt.enc] at htb3
      have hl3:=a0r htb3
      have hne:=(hfm.bridge (by omega)).2.1
      have hob:atE f.other (a90 esN f.node i) = _:=(b4n esN f.node f.other i).trans ((if_neg (Ne.symm hne)).trans (hO.net f.other))
      clear htb hS2
      have htb:=htb3
      (repeat first|simp only [ww]|(apply xa;simp +decide only [go_sem,cm,htb,hl3];rfl;kernel_rfl))
      refine d3w (fun F1 H2=>∃ v49 v50 v51 v52 v53 v54 v55 v56 v57 v58 nids2,F1 = (58,v58) :: (57,v57) :: (56,v56) :: (55,v55) :: (54,v54) :: (53,v53) :: (52,v52) :: (51,v51) :: (50,v50) :: (49,v49) :: ([(48,.bool true),(47,.int .u8 2),(46,.ptr tb 0 0),(45,v45),(44,v44),(43,v43),(42,v42),(41,v41),(40,v40),(39,v39),(38,v38),(37,v37),(36,v36),(35,v35),(34,v34),(24,.bool false),(23,.int .i64 f.pin),(22,.ptr tb 0 2),(21,.ptr tb 0 1),(9,.int .i64 i),(10,.ptr tb 0 0),(20,.agg [.int .u8 2,.int .i64 f.node,.int .i64 f.pin,.int .u8 f.value,.int .i64 f.other]),(19,.iptr [.int .u8 2,.int .i64 f.node,.int .i64 f.pin,.int .u8 f.value,.int .i64 f.other]),(18,.int .i64 i),(17,.bool true),(3,.ptr eb 0 0),(4,.ptr fb 0 0),(5,.ptr gb 0 0),(6,.ptr rb 0 0),(7,.ptr nc 0 0),(8,.ptr pc 0 0),(14,sl rl (fs.map Flt.enc)),(15,.int .i64 fs.length),(16,.int .i64 (i:Nat))]:Frm) ∧ EachSt E9 (sl rl (fs.map Flt.enc)) (sl rg (good.map W.enc)) H2 eb fb gb rb nc nb pc pb nids2 pids (a90 (a90 esN f.node i) f.other i) esP ∧ a02 H2 tb = some (.row 5 [f.enc])) ?_ ?_
      ·have hc1:=hS3.n.cell
       have hc2:=hS3.n.top
       have hl1:=a0r hc1
       have hl2:=a0r hc2
       have hl3:=a0r htb
       have hbc:=hS3.n.bc
       obtain ⟨ot1,ot2⟩:=hS3.n.other htb (fun l e=>absurd e (by omega))
       have ot3:tb ≠ nc:=by intro e;rw [e,hc1] at htb;cases htb
       obtain ⟨d,hd,hz1⟩:=uSl
       have hlk:=keyI.look zSl hd hz1 hc2 f.other
       have hup:=fun (H':a04) (hb:a02 H' nb = _) v=>keyI.update (h:=a02 H') (hb.trans hc2) f.other v
       cases hpos:a76 f.other ((a90 esN f.node i).map (·.1)) with
       | none=>
        rw [hpos] at hlk hup
        have hlk:a2w L.env (a02 H2) 118 (.map nb) (.int .i64 f.other) false = some .nilslice:=hlk
        have hup:∀ (L1:a04) v,a1n L.env (a02 (H2 ++ L1)) 118 (.map nb) (.int .i64 f.other) v = _:=fun L1 v=>hup _ (a1x (eq_true hl2)) v
        refine b02 (by simp +decide only [go_sem,c1,Flt.enc,hc1,htb,hup,a2e,a38,a1x,a3t,a5d,a6y,a9s,List.length_set,a4b,a5k,List.append_assoc,List.cons_append,List.nil_append,hl1,hl2,hl3,hlk];rfl) ?_ ?_
        ·(repeat' (first|exact b2g|exact b29|refine b03 ?_ ?_|refine b28 (by simp only [List.length_cons,List.length_nil];decide +kernel) ?_|refine b2a (b0i (by simp<;>omega) (by simp<;>omega) (by simp<;>omega)) ?_))
        ·have hat:atE f.other (a90 esN f.node i) = []:=by unfold atE;rw [hpos]
         have hobj:MSl.obj b1p nids2 (a90 esN f.node i) f.other (H2.length + 1) = .map (((a90 esN f.node i).map (·.1)).map b1p ++ [b1p f.other]) (((a90 esN f.node i).mapIdx fun j e=>.slice (nids2 j) 0 e.2.length none) ++ [.slice (H2.length + 1) 0 1 none]) (List.range (a90 esN f.node i).length ++ [(a90 esN f.node i).length]) ((a90 esN f.node i).length + 1):=by unfold MSl.obj;rw [hpos,hat];rfl
         obtain ⟨nids2,hS3⟩:=EachSt.addN (H1:=H2.set nb (some (MSl.obj b1p nids2 (a90 esN f.node i) f.other (H2.length + 1))) ++ [some (.row 1 [[.int .i64 i]]),some (.row 1 [[.int .i64 i]])]) (b1y _ _) (b1y _ _) hS3 f.other i (H2.length + 1) (by omega) (by rw [a1l hl2,if_pos rfl]) (by rw [a67,hat];rfl) (fun d hd hn _=>by rw [a1l hd,if_neg (Ne.symm hn)])
         rw [hobj] at hS3
         exact ⟨_,_,_,_,_,_,_,_,_,_,nids2,rfl,hS3,by rw [a1l hl3,if_neg (Ne.symm ot1),htb];rfl⟩
       | some j=>
        rw [hpos] at hlk hup
        have hjl:=MSl.posl hpos
        obtain ⟨x,hx⟩:∃ x,(a90 esN f.node i)[j]? = some x:=⟨_,List.getElem?_eq_getElem hjl⟩
        have hat:atE f.other (a90 esN f.node i) = x.2:=by unfold atE;rw [hpos];simp [hx]
        have hsub:=hS3.n.sub j x hx
        obtain ⟨hj1,hj2⟩:=hS3.n.sub_c hjl
        have hj3:=ot2 j hjl
        have hjh:=a0r hsub
        have hlen:x.2.length + 1 ≤ 1000000000:=by
         have:=hob
         rw [hat] at this
         have h2:=List.length_filter_le (fun j=>(fs.getD j fD).hitsNet f.other) (List.range i)
         rw [← this,List.length_range] at h2;omega
        rw [hat] at hlk
        have hlk:a2w L.env (a02 H2) 118 (.map nb) (.int .i64 f.other) false = some (.slice (nids2 j) 0 x.2.length none):=hlk
        have hup:∀ (L1:a04) v,a1n L.env (a02 (H2.set (nids2 j) none ++ L1)) 118 (.map nb) (.int .i64 f.other) v = _:=fun L1 v=>hup _ (by rw [a1l hl2,if_neg hj2]) v
        refine b02 (by simp +decide only [go_sem,c1,Flt.enc,hc1,htb,hup,a2e,a38,a1x,a3t,a5d,a6y,a9s,List.length_set,a4b,a5k,List.append_assoc,List.cons_append,List.nil_append,hl1,hl2,hl3,hlk,hsub,hlen,hjh];rfl) ?_ ?_
        ·(repeat' (first|exact b2g|exact b29|refine b03 ?_ ?_|refine b28 (by simp only [List.length_cons,List.length_nil];decide +kernel) ?_|refine b2a (b0i (by simp<;>omega) (by simp<;>omega) (by simp<;>omega)) ?_))
        ·have hobj:MSl.obj b1p nids2 (a90 esN f.node i) f.other (H2.length + 1) = .map (((a90 esN f.node i).map (·.1)).map b1p) (((a90 esN f.node i).mapIdx fun j e=>AV.slice (nids2 j) 0 e.2.length none).set j (.slice (H2.length + 1) 0 (x.2.length + 1) none)) (List.range (a90 esN f.node i).length) (a90 esN f.node i).length:=by unfold MSl.obj;rw [hpos,hat]
         obtain ⟨nids2,hS3⟩:=EachSt.addN (H1:=(H2.set (nids2 j) none).set nb (some (MSl.obj b1p nids2 (a90 esN f.node i) f.other (H2.length + 1))) ++ [some (.row 1 [[.int .i64 i]]),some (.row 1 (x.2.map nR ++ [[.int .i64 i]]))]) (b1y _ _) (b1y _ _) hS3 f.other i (H2.length + 1) (by omega) (by rw [a32 hl2,if_pos rfl]) (by rw [a8s,hat,List.map_append];rfl) (fun d hd hn hq=>by rw [a32 hd,if_neg (Ne.symm hn),if_neg (Ne.symm (hq j hpos))])
         rw [hobj] at hS3
         exact ⟨_,_,_,_,_,_,_,_,_,_,nids2,rfl,hS3,by rw [a32 hl3,if_neg (Ne.symm ot1),if_neg (Ne.symm hj3),htb];rfl⟩
      ·rintro F1 H2 ⟨v49,v50,v51,v52,v53,v54,v55,v56,v57,v58,nids2,rfl,hS3,htb3⟩
       simp only [Flt.enc] at htb3
       have hl3:=a0r htb3
       (repeat first|simp only [ww]|(apply xa;simp +decide only [go_sem,htb3,hl3,hwi];rfl;kernel_rfl))
       refine a16 (fs.length - (i + 1)) (by omega) ?_
       refine b0d rl rg fs good E9 _ _ (i + 1) eb fb gb rb nc nb pc pb nids2 pids _ _ hlt (by simp +decide only [go_sem,a29]<;>rfl) hS3 ?_ hE hfl
       refine hO.next hD (fun n=>?_) (fun p=>?_) (by have:=b2o esN f.node i;have:=b2o (a90 esN f.node i) f.other i;omega) (by omega)
       ·rw [b4n,b4n]
        by_cases h1:n = f.node
        ·have h2:n ≠ f.other:=by omega
         simp [Flt.hitsNet,hp,hm,h1,hne]
        ·by_cases h2:n = f.other
         ·simp [Flt.hitsNet,hp,hm,h2,Ne.symm hne]
         ·simp [Flt.hitsNet,hp,hm,h1,h2]
       ·simp [Flt.hitsPin,cp]
     ·have cm:¬ ((f.model:Nat):Int) = 2:=by omega
      simp only [Flt.enc] at htb3
      have hl3:=a0r htb3
      (repeat first|simp only [ww]|(apply xa;simp +decide only [go_sem,cm,htb3,hl3,hwi];rfl;kernel_rfl))
      refine a16 (fs.length - (i + 1)) (by omega) ?_
      refine b0d rl rg fs good E9 _ _ (i + 1) eb fb gb rb nc nb pc pb nids2 pids _ _ hlt (by simp +decide only [go_sem,a29]<;>rfl) hS3 ?_ hE hfl
      refine hO.next hD (fun n=>?_) (fun p=>?_) (by have:=b2o esN f.node i;omega) (by omega)
      ·rw [b4n];simp [Flt.hitsNet,hp,hm]
      ·simp [Flt.hitsPin,cp]
   ·have cp:0 ≤ f.pin:=by omega
    (repeat first|simp only [ww]|(apply xa;simp +decide only [go_sem,c1,hlt,hfi,cp,Flt.enc,a2e,a38,a5d,a6y,a4b];rfl;kernel_rfl))
    obtain ⟨p,hpp⟩:∃ p:Nat,f.pin = (p:Nat):=⟨f.pin.toNat,by omega⟩
    have hS2:=hS.more (L:=[some (AObj.row 5 [f.enc])])
    have htb:a02 (H1 ++ [some (AObj.row 5 [f.enc])]) H1.length = some (AObj.row 5 [f.enc]):=a2e
    simp only [Flt.enc] at hS2 htb
    generalize H1 ++ [some (AObj.row 5 [_])] = Hs at hS2 htb ⊢
    generalize H1.length = tb at htb ⊢
    rw [hpp] at htb ⊢
    refine d54 (fun F1 H2=>∃ v25 v26 v27 v28 v29 v30 v31 v32 v33 pids2,F1 = (33,v33) :: (32,v32) :: (28,v28) :: (31,v31) :: (30,v30) :: (29,v29) :: (27,v27) :: (26,v26) :: (25,v25) :: ([(24,.bool true),(23,.int .i64 (p:Nat)),(22,.ptr tb 0 2),(21,.ptr tb 0 1),(9,.int .i64 i),(10,.ptr tb 0 0),(20,.agg [.int .u8 f.model,.int .i64 f.node,.int .i64 (p:Nat),.int .u8 f.value,.int .i64 f.other]),(19,.iptr [.int .u8 f.model,.int .i64 f.node,.int .i64 (p:Nat),.int .u8 f.value,.int .i64 f.other]),(18,.int .i64 i),(17,.bool true),(3,.ptr eb 0 0),(4,.ptr fb 0 0),(5,.ptr gb 0 0),(6,.ptr rb 0 0),(7,.ptr nc 0 0),(8,.ptr pc 0 0),(14,sl rl (fs.map Flt.enc)),(15,.int .i64 fs.length),(16,.int .i64 (i:Nat))]:Frm) ∧ EachSt E9 (sl rl (fs.map Flt.enc)) (sl rg (good.map W.enc)) H2 eb fb gb rb nc nb pc pb nids pids2 esN (a90 esP (f.node,p) i)) ?_ ?_
    ·have hc1:=hS2.p.cell
     have hc2:=hS2.p.top
     have hl1:=a0r hc1
     have hl2:=a0r hc2
     have hl3:=a0r htb
     have hbc:=hS2.p.bc
     obtain ⟨ot1,ot2⟩:=hS2.p.other htb (fun l e=>absurd e (by omega))
     have ot3:tb ≠ pc:=by intro e;rw [e,hc1] at htb;cases htb
     obtain ⟨d,hd,hz1⟩:=uSl
     have hen:=fun (H':a04) (hb:a02 H' pb = _) r=>keyP.entry (h:=a02 H') (r:=r) (hb.trans hc2) (f.node,p) zSl hd hz1
     have hT0:∀ (o:Option AObj) (L:a04),a02 (Hs.set pb o ++ L) Hs.length = a02 L 0:=fun o L=>by have:=a67 (H:=Hs) (a:=pb) (o:=o) (L:=L) 0;rwa [Nat.add_zero] at this
     cases hpos:a76 (f.node,p) (esP.map (·.1)) with
     | none=>
      simp only [hpos] at hen
      have hen:∀ L1:a04,a4i L.env (a02 (Hs ++ L1)) 119 (.map pb) (.agg [.int .i64 f.node,.int .i64 p]) = _:=fun L1=>hen _ (a1x (eq_true hl2)) _ rfl
      have hes:=fun (L1:a04) v=>a94 (k:=.i64) (h:=a02 (Hs.set pb (some (.map ((esP.map (·.1)).map b46 ++ [b46 (f.node,p)]) ((esP.mapIdx fun j (e:(Nat × Nat) × List Nat)=>AV.slice (pids j) 0 e.2.length none) ++ [AV.nilslice]) (List.range esP.length ++ [esP.length]) (esP.length + 1))) ++ L1)) (b:=pb) (n:=esP.length + 1) (cl:=esP.length + 1) (ks:=(esP.map (·.1)).map b46 ++ [b46 (f.node,p)]) (vs:=(esP.mapIdx fun j (e:(Nat × Nat) × List Nat)=>AV.slice (pids j) 0 e.2.length none) ++ [AV.nilslice]) (by rw [a1l hl2,if_pos rfl,List.range_succ]) (j:=esP.length) (by omega) v
      simp only [List.range_succ] at hes
      have hst:∀ v:AV,((esP.mapIdx fun j (e:(Nat × Nat) × List Nat)=>AV.slice (pids j) 0 e.2.length none) ++ [AV.nilslice]).set esP.length v = (esP.mapIdx fun j (e:(Nat × Nat) × List Nat)=>AV.slice (pids j) 0 e.2.length none) ++ [v]:=by
       intro v
       have:=List.set_append_right (s:=esP.mapIdx fun j (e:(Nat × Nat) × List Nat)=>AV.slice (pids j) 0 e.2.length none) (t:=[AV.nilslice]) esP.length v (by simp)
       rw [this];simp
      refine b5t (by simp +decide only [go_sem,c1,Flt.enc,hc1,htb,a2e,a38,a1x,a3t,a5d,a6y,a9s,List.length_set,a4b,a5k,List.append_assoc,List.cons_append,List.nil_append,hl1,hl2,hl3,hen,hes,hst,hT0,List.set_set];rfl) ?_
      ·have hat:atE (f.node,p) esP = []:=by unfold atE;rw [hpos]
       have hobj:MSl.obj b46 pids esP (f.node,p) (Hs.length + 1) = .map ((esP.map (·.1)).map b46 ++ [b46 (f.node,p)]) ((esP.mapIdx fun j (e:(Nat × Nat) × List Nat)=>.slice (pids j) 0 e.2.length none) ++ [.slice (Hs.length + 1) 0 1 none]) (List.range esP.length ++ [esP.length]) (esP.length + 1):=by unfold MSl.obj;rw [hpos,hat];rfl
       obtain ⟨pids2,hS3⟩:=EachSt.addP (H1:=Hs.set pb (some (MSl.obj b46 pids esP (f.node,p) (Hs.length + 1))) ++ [some (.row 1 [[.int .i64 i]]),some (.row 1 [[.int .i64 i]])]) (b1y _ _) (b1y _ _) hS2 (f.node,p) i (Hs.length + 1) (by omega) (by rw [a1l hl2,if_pos rfl]) (by rw [a67,hat];rfl) (fun d hd hn _=>by rw [a1l hd,if_neg (Ne.symm hn)])
       rw [hobj] at hS3
       exact ⟨_,_,_,_,_,_,_,_,_,pids2,rfl,hS3⟩
     | some j=>
      have hjl:=MSl.posl hpos
      obtain ⟨x,hx⟩:∃ x,esP[j]? = some x:=⟨_,List.getElem?_eq_getElem hjl⟩
      have hat:atE (f.node,p) esP = x.2:=by unfold atE;rw [hpos];simp [hx]
      have hsub:=hS2.p.sub j x hx
      obtain ⟨hj1,hj2⟩:=hS2.p.sub_c hjl
      have hj3:=ot2 j hjl
      have hjh:=a0r hsub
      have hlen:x.2.length + 1 ≤ 1000000000:=by
       have:=hO.pin (f.node,p)
       rw [hat] at this
       have h2:=List.length_filter_le (fun j=>(fs.getD j fD).hitsPin ((f.node,p):Nat × Nat).1 ((f.node,p):Nat × Nat).2) (List.range i)
       rw [← this,List.length_range] at h2;omega
      have hg1:(esP.mapIdx fun j (e:(Nat × Nat) × List Nat)=>AV.slice (pids j) 0 e.2.length none)[j]? = some (.slice (pids j) 0 x.2.length none):=by rw [List.getElem?_mapIdx,hx];rfl
      have hg2:(List.range esP.length)[j]? = some j:=List.getElem?_range hjl
      simp only [hpos,hg1,hg2] at hen
      have hen:∀ L1:a04,a4i L.env (a02 (Hs ++ L1)) 119 (.map pb) (.agg [.int .i64 f.node,.int .i64 p]) = _:=fun L1=>hen _ (a1x (eq_true hl2)) _ rfl
      have hss:=b27 hc2
      have hes:=fun (L1:a04) v=>a94 (k:=.i64) (h:=a02 (Hs.set (pids j) none ++ L1)) (b:=pb) (by rw [a1l hl2,if_neg hj2];exact hc2) hjl v
      refine b5t (by simp +decide only [go_sem,c1,Flt.enc,hc1,htb,a2e,a38,a1x,a3t,a5d,a6y,a9s,List.length_set,a4b,a5k,List.append_assoc,List.cons_append,List.nil_append,hl1,hl2,hl3,hen,hes,hss,hsub,hlen,hjh];rfl) ?_
      ·have hobj:MSl.obj b46 pids esP (f.node,p) (Hs.length + 1) = .map ((esP.map (·.1)).map b46) ((esP.mapIdx fun j (e:(Nat × Nat) × List Nat)=>AV.slice (pids j) 0 e.2.length none).set j (.slice (Hs.length + 1) 0 (x.2.length + 1) none)) (List.range esP.length) esP.length:=by unfold MSl.obj;rw [hpos,hat]
       obtain ⟨pids2,hS3⟩:=EachSt.addP (H1:=(Hs.set (pids j) none).set pb (some (MSl.obj b46 pids esP (f.node,p) (Hs.length + 1))) ++ [some (.row 1 [[.int .i64 i]]),some (.row 1 (x.2.map nR ++ [[.int .i64 i]]))]) (b1y _ _) (b1y _ _) hS2 (f.node,p) i (Hs.length + 1) (by omega) (by rw [a32 hl2,if_pos rfl]) (by rw [a8s,hat,List.map_append];rfl) (fun d hd hn hq=>by rw [a32 hd,if_neg (Ne.symm hn),if_neg (Ne.symm (hq j hpos))])
       rw [hobj] at hS3
       exact ⟨_,_,_,_,_,_,_,_,_,pids2,rfl,hS3⟩
    ·rintro F1 H2 ⟨v25,v26,v27,v28,v29,v30,v31,v32,v33,pids2,rfl,hS3⟩
     (repeat first|simp only [ww]|(apply xa;simp +decide only [go_sem,hwi];rfl;kernel_rfl))
     refine a16 (fs.length - (i + 1)) (by omega) ?_
     refine b0d rl rg fs good E9 _ _ (i + 1) eb fb gb rb nc nb pc pb nids pids2 _ _ hlt (by simp +decide only [go_sem,a29]<;>rfl) hS3 ?_ hE hfl
     refine hO.next hD (fun n=>?_) (fun q=>?_) (by omega) (by have:=b2o esP (f.node,p) i;omega)
     ·simp [Flt.hitsNet,hp]
     ·rw [b4n]
      have he:(q = (f.node,p)) = (f.hitsPin q.1 q.2 = true):=by
       simp only [Flt.hitsPin,hpp,Bool.and_eq_true,decide_eq_true_eq,eq_iff_iff]
       exact ⟨fun h=>by rw [h];exact ⟨by omega,rfl,rfl⟩,fun ⟨_,h1,h2⟩=>Prod.ext h1 (by omega)⟩
      simp only [he]
  ·obtain rfl:i = fs.length:=by omega
   have c1:¬ (fs.length:Int) < fs.length:=by omega
   have he:=hS.e
   have hr:=hS.r
   have hel:=a0r he
   have hrl:=a0r hr
   unfold d53 at hr
   have her:eb ≠ rb:=by
    intro e;rw [e,hr] at he
    have h1:=congrArg (fun o:Option AObj=>match o with|some (.row _ [l])=>l|_=>[]) he
    simp only at h1
    rw [← hE9] at h1
    simp only [List.cons.injEq] at h1
    have h2:=h1.2.2.2.2.2.2.2.1
    simp [net0V] at h2
   have q1:∀ (o:Option AObj) (L:a04),a02 (H1.set eb o ++ L) eb = o:=fun o L=>by rw [a1l hel,if_pos rfl]
   have q2:∀ (o:Option AObj) (L:a04),a02 (H1.set eb o ++ L) rb = some (.row 9 [[.nilslice,.nilslice,.nilslice,.nilslice,.nilslice,.nilslice,.nilslice,.nilfunc,.nilfunc]]):=fun o L=>by rw [a1l hrl,if_neg her,hr]
   have q3:∀ (o o2:Option AObj) (L:a04),a02 ((H1.set eb o).set rb o2 ++ L) rb = o2:=fun o o2 L=>by rw [a32 hrl,if_pos rfl]
   rw [← hE9] at he
   (repeat first|simp only [ww]|(apply xa;simp +decide only [go_sem,q1,q2,q3,List.set_set,c1,he,hr,hel,hrl,a2e,a38,a1x,a3t,a5d,a6y,a9s,List.length_set,a4b,a5k,List.append_assoc,List.cons_append,List.nil_append,hs0,hs1,hj0,hj1];rfl;kernel_rfl))
   have hdN:∀ d,d ∈ MSl.blocks nc nb nids esN.length → d ≠ eb ∧ d ≠ rb:=by
    intro d hd
    obtain ⟨o1,o2⟩:=hS.n.other he (fun l e=>absurd e (by omega))
    obtain ⟨o3,o4⟩:=hS.n.other hr (fun l e=>absurd e (by omega))
    rcases MSl.mem_blocks.1 hd with rfl|rfl|⟨j,hj,rfl⟩
    ·exact ⟨fun e=>by (have:=hS.n.cell;rw [e,he] at this;cases this),fun e=>by (have:=hS.n.cell;rw [e,hr] at this;cases this)⟩
    ·exact ⟨Ne.symm o1,Ne.symm o3⟩
    ·exact ⟨Ne.symm (o2 j hj),Ne.symm (o4 j hj)⟩
   have hdP:∀ d,d ∈ MSl.blocks pc pb pids esP.length → d ≠ eb ∧ d ≠ rb:=by
    intro d hd
    obtain ⟨o1,o2⟩:=hS.p.other he (fun l e=>absurd e (by omega))
    obtain ⟨o3,o4⟩:=hS.p.other hr (fun l e=>absurd e (by omega))
    rcases MSl.mem_blocks.1 hd with rfl|rfl|⟨j,hj,rfl⟩
    ·exact ⟨fun e=>by (have:=hS.p.cell;rw [e,he] at this;cases this),fun e=>by (have:=hS.p.cell;rw [e,hr] at this;cases this)⟩
    ·exact ⟨Ne.symm o1,Ne.symm o3⟩
    ·exact ⟨Ne.symm (o2 j hj),Ne.symm (o4 j hj)⟩
   have hlN:=hS.n.lt
   have hlP:=hS.p.lt
   have hff:=hS.f
   have hgg:=hS.g
   have hfn:fb ≠ eb ∧ fb ≠ rb:=⟨fun e=>by (rw [e,he] at hff;cases hff),fun e=>by (rw [e,hr] at hff;cases hff)⟩
   have hgn:gb ≠ eb ∧ gb ≠ rb:=⟨fun e=>by (rw [e,he] at hgg;cases hgg),fun e=>by (rw [e,hr] at hgg;cases hgg)⟩
   refine a2t (vs:=[_]) (r:=(_,[])) (by simp +decide only [go_sem,q3]<;>rfl) ?_ ⟨esN,esP,hO,rfl⟩
   show a1v false 0 _ _ = _
   have hKd:∀ (o o2:Option AObj) (L:a04) d,d < H1.length → d ≠ eb → d ≠ rb → a02 ((H1.set eb o).set rb o2 ++ L) d = a02 H1 d:=fun o o2 L d h1 h2 h3=>by rw [a32 h1,if_neg (Ne.symm h3),if_neg (Ne.symm h2)]
   have hKl:∀ (o o2:Option AObj) (L:a04),a02 ((H1.set eb o).set rb o2 ++ L) H1.length = a02 L 0:=fun o o2 L=>by have:=a8s (H:=H1) (a:=eb) (b:=rb) (x:=o) (y:=o2) (L:=L) 0;rwa [Nat.add_zero] at this
   have hNk:∀ (o o2:Option AObj) (L:a04),MSl b1p ((H1.set eb o).set rb o2 ++ L) nc nb nids esN:=fun o o2 L=>hS.n.same fun d hd=>hKd o o2 L d (hlN d hd) (hdN d hd).1 (hdN d hd).2
   have hPk:∀ (o o2:Option AObj) (L:a04),MSl b46 ((H1.set eb o).set rb o2 ++ L) pc pb pids esP:=fun o o2 L=>hS.p.same fun d hd=>hKd o o2 L d (hlP d hd) (hdP d hd).1 (hdP d hd).2
   have hfk:=fun (o o2:Option AObj) (L:a04)=>(hKd o o2 L fb (a0r hff) hfn.1 hfn.2).trans hff
   have hgk:=fun (o o2:Option AObj) (L:a04)=>(hKd o o2 L gb (a0r hgg) hgn.1 hgn.2).trans hgg
   have k1:∀ (o o2:Option AObj),a6k (a02 ((H1.set eb o).set rb o2 ++ [some (AObj.row 1 [[AV.func (.func 48) [] [.ptr fb 0 0,.ptr gb 0 0]]])])) 0 12 (.ptr H1.length 0 0) = some (.iptr [b0e rl rg fs good]):=by
    intro o o2
    refine b3v (n:=11) (hKl o o2 _) ?_
    rw [c2o,a8v,a59,c18,decide_eq_false (Nat.not_lt_zero _),cond_false,b3v (n:=10) (hfk o o2 _) (a4f 0 false _ _ (a2i _ _)),a59,c18,decide_eq_false (Nat.not_lt_zero _),cond_false,b3v (n:=10) (hgk o o2 _) (a4f 0 false _ _ (a2i _ _)),a8v]
    rfl
   have k2:=fun (o o2:Option AObj) (L:a04)=>(hNk o o2 L).frz a9w 9
   have k3:=fun (o o2:Option AObj) (L:a04)=>(hPk o o2 L).frz a9v 9
   have kb:∀ b:Nat,decide (b < 0) = false:=fun b=>decide_eq_false (Nat.not_lt_zero _)
   rw [hEe]
   unfold c8w c8v
   generalize b0e rl rg fs good = f1 at k1
   generalize b15 b1p esN = m1 at k2
   generalize b15 b46 esP = m2 at k3
   rw [b40]
   simp only [a8z,d79,c2o,a59,a8v,c18,kb,cond_false,Nat.reduceAdd,k1,k2,k3,a0k,e1e,c4j,b9c]
   rw [List.take_zero]
   rfl
/-- What the faults of a group do to nets and pins. -/
def b22 (fs:List Flt) (good:List W) (esN:List (Nat × List Nat)) (esP:List ((Nat × Nat) × List Nat)):Hk W:=⟨fun n w=>b4y fs good (atE n esN) w,fun n p w=>b4y fs good (atE (n,p) esP) w⟩
theorem c8u (c:Cir) (hc:c.wf) (ord:List Nat) (rl rg:Rep) (fs:List Flt) (good:List W) (hf:∀ f ∈ fs,FltOk c.nodes f) (hfl:fs.length ≤ 64) (hg:good.length = c.nodes.length) :
 ∃ net pin esN esP,EachOk fs fs.length esN esP ∧ NetF c.nodes.length net (b22 fs good esN esP).net ∧ PinF c.nodes.length pin (b22 fs good esN esP).pin ∧ net.storable = true ∧ pin.storable = true ∧
  ∀ (d:Bool) (H:a04),a0e L.env d (f7x L.env Mf) (.func (.func 24) [] []) [.agg (b0u c ord net0V pin0V),sl rl (fs.map Flt.enc),sl rg (good.map W.enc)] H = some (.agg (b0u c ord net pin),H,[]):=by
 obtain ⟨r,⟨esN,esP,hO,rfl⟩,h3⟩:=d7k c hc ord rl rg fs good hf hfl hg
 have hN:∀ n,∀ j ∈ atE n esN,j < fs.length:=by
  intro n j hj;rw [hO.net n] at hj;simpa using (List.mem_filter.1 hj).1
 have hP:∀ p,∀ j ∈ atE p esP,j < fs.length:=by
  intro p j hj;rw [hO.pin p] at hj;simpa using (List.mem_filter.1 hj).1
 have hN2:∀ n,(atE n esN).length ≤ 1000:=by
  intro n;rw [hO.net n];have:=List.length_filter_le (fun j=>(fs.getD j fD).hitsNet n) (List.range fs.length);rw [List.length_range] at this;omega
 have hP2:∀ p,(atE p esP).length ≤ 1000:=by
  intro p;rw [hO.pin p];have:=List.length_filter_le (fun j=>(fs.getD j fD).hitsPin p.1 p.2) (List.range fs.length);rw [List.length_range] at this;omega
 exact ⟨_,_,esN,esP,hO,e1t c.nodes rl rg fs good esN hf hfl hg hN hN2,e1s c.nodes rl rg fs good esP hf hfl hg hP hP2,rfl,rfl,fun d H=>a03 (by kernel_rfl) (by kernel_rfl) rfl (by simp only [List.nil_append,List.append_nil,a08,a10,a9u c ord net0V pin0V rfl rfl,go_sem]) h3 (by rw [a10];exact a9u _ _ _ _ rfl rfl)⟩
open Go.Proofs Go.Ax Go.Pc
set_option maxRecDepth 100000
theorem d18 (r:Rep) (l:List Nat) (hl:l.length ≤ 1000) (hv:∀ v ∈ l,v ≤ 3):f7x L.env Mf 22 [sl r (l.map u8R)] [] = some (sl none ((l.map a1a).map W.enc),[]):=by
 (refine sv Tryz.f22 ?_;simp only [Tryz.f22,gS])
 (repeat first|simp only [ww]|(apply xa;simp +decide only [go_sem];rfl;kernel_rfl))
 refine a0w (σ:=Nat) kp22_0 (fun i=>[(3,grV 0 (((l.take i).map a1a).map W.enc)),(6,sl r (l.map u8R)),(7,.int .i64 l.length),(8,.int .i64 i)])
  (fun i=>grH 2 (((l.take i).map a1a).map W.enc)) (fun i=>l.length - i) (fun i=>i ≤ l.length) 0 ?_ (Nat.zero_le _) ?_
 ·(simp +decide only [go_sem,a01,a00,List.take_zero,List.map_nil,a0b,a0c]<;>rfl)
 ·intro i hi
  by_cases hlt:i < l.length
  ·obtain ⟨v,hx⟩:∃ v,l[i]? = some v:=⟨_,List.getElem?_eq_getElem hlt⟩
   have hvm:=hv v (List.mem_of_getElem? hx)
   have c1:(i:Int) < l.length:=by omega
   have hwi:=wI1 (n:=i) (by omega)
   have hc:=fun H=>b41 (d:=false) H v (by omega)
   have hs:((l.take (i + 1)).map a1a).map W.enc = ((l.take i).map a1a).map W.enc ++ [(a1a v).enc]:=by rw [a0u hx];simp
   have htl:(((l.take i).map a1a).map W.enc).length = i:=by simp;omega
   generalize a1a v = y at hc hs
   have hfT:=a9i ((l.take i).map a1a)
   generalize ((l.take i).map a1a).map W.enc = T at hs htl hfT
   have h1:=a0a hfT
   have h2:=fun π=>a0d π hfT
   simp only [W.enc] at hc
   cases T with
   | nil=>
    (repeat first|simp only [ww]|(apply xa;simp +decide only [go_sem,c1,hlt,hx,hwi,hc,a0b,a0c,u8R];rfl;kernel_rfl))
    refine a1w (i + 1) ?_ (by omega) (by omega)
    rw [hs]
    (simp +decide only [go_sem,a01,a00,List.nil_append,a05,a06,List.length_nil,a3u,a6f,W.enc]<;>rfl)
   | cons a r=>
    simp only [List.length_cons] at htl
    have hrm:r.length + 1 + 1 ≤ 1000000000:=by omega
    simp only [List.flatMap_cons] at h1
    simp only [List.map_cons,List.cons.injEq] at h2
    (repeat first|simp only [ww]|(apply xa;simp +decide only [go_sem,c1,hlt,hx,hwi,hc,a05,a06,hrm,List.length_cons,u8R];rfl;kernel_rfl))
    refine a1w (i + 1) ?_ (by omega) (by omega)
    rw [hs]
    (simp +decide only [go_sem,a01,a00,List.cons_append,a05,a06,List.length_cons,a3u,a6f,W.enc,h1,h2]<;>rfl)
  ·obtain rfl:i = l.length:=by omega
   have c1:¬ (l.length:Int) < l.length:=by omega
   rw [List.take_length]
   have hfl:=a9i (l.map a1a)
   generalize hT:(l.map a1a).map W.enc = T at hfl
   cases T with
   | nil=>
    (repeat first|simp only [ww]|(apply xa;simp +decide only [go_sem,c1,a0b,a0c];rfl;kernel_rfl))
    (apply f6w;simp +decide only [go_sem]<;>rfl)
   | cons a r=>
    (repeat first|simp only [ww]|(apply xa;simp +decide only [go_sem,c1,a05,a06];rfl;kernel_rfl))
    (apply f6w;simp +decide only [go_sem,a0q _ _ hfl,a3r]<;>rfl)
theorem b5r {d:Bool} (H:a04) (r:Rep) (l:List Nat) (hl:l.length ≤ 1000) (hv:∀ v ∈ l,v ≤ 3):a0e L.env d (f7x L.env Mf) (.func (.func 22) [] []) [sl r (l.map u8R)] H = some (sl none ((l.map a1a).map W.enc),H,[]):=
 a03 (by kernel_rfl) (by kernel_rfl) rfl (by simp only [List.nil_append,List.append_nil,a08,go_sem]) (d18 r l hl hv) (a2i _ _)
end Go.ZInst
