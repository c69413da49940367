/- KText: what cubes.Text answers at two given cubes. -/
import Derived.Test.YtbmkmaobejlkgaaDoorKTypes
import Derived.Test.YtbmkmaobejlkgaaDoorAxE
import Derived.Test.YtbmkmaobejlkgaaDoorKTxt
set_option linter.unusedSimpArgs false
set_option linter.unusedVariables false
namespace Go.KInst
open Go.Proofs Go.Ax Go.RowKit
/-- A contract that keeps all old blocks, as a fact. -/
theorem fact_below {E:Env} {g:Nat} {args:List AV} {s:List UInt8} (hg:g ≠ yId)
 (h:∀ (I K:Nat → Prop) (ρ:PMap) (w:World) (cargs:List Value),HRel E.G I K ρ (HeapF []) w → NRel ρ 0 → VRels I w ρ args cargs → Calls E.P g cargs.toArray w fun e w'=>e = .returned (.string ⟨s.toArray⟩) ∧ Below w.heap.size w w') :
 FactOk E ⟨g,args,.str s⟩:=by
 intro I K ρ w cargs rel hn ha
 show XOf E g cargs w _
 rw [XOf_fn hg]
 refine Calls.mono (h I K ρ w cargs rel hn ha) ?_
 rintro e w' ⟨rfl,hb⟩
 have hIw:∀ c,I c → w'.heap[c]? = w.heap[c]?:=fun c hc=>hb.block c (rel.imm c hc)
 refine ⟨_,I,ρ,rfl,⟨fun _ h=>h,fun _ _=>rfl,⟨hb.os,hb.tape,hb.output,hb.size,fun c hc=>hb.block c (hc.elim (rel.imm c) (rel.kept c))⟩,?_,hn,Nat.zero_le _⟩,?_⟩
 ·refine ⟨?_,?_,?_,fun c hc=>Nat.lt_of_lt_of_le (rel.imm c hc) hb.size,fun c hc=>Nat.lt_of_lt_of_le (rel.kept c hc) hb.size,rel.apart,fun g cs hg=>?_⟩
  ·intro b o ho;simp [HeapF] at ho
  ·intro b b' m m' ho;simp [HeapF] at ho
  ·intro b m hm;rw [hn b (Nat.zero_le _)] at hm;cases hm
  ·obtain ⟨h1,h2⟩:=rel.glob g cs hg
   exact ⟨h1,VAt.mono (fun _ h=>h) hIw cs (fun _ _ h=>h) (hIw g h1) h2⟩
 ·simp only [VRel]
  exact ⟨_,rfl,by simp⟩
/-- A fact as a contract, at a later world. -/
theorem below_fact {E:Env} {g:Nat} {args:List AV} {k:IntKind} {n:Int} (hg:g ≠ yId) (hf:FactOk E ⟨g,args,.int k n⟩) {I K:Nat → Prop} {ρ:PMap} {w w1:World} {cargs:List Value}
 (rel:HRel E.G I K ρ (HeapF []) w) (hn:NRel ρ 0) (ha:VRels I w ρ args cargs) (hb:Below w.heap.size w w1):Calls E.P g cargs.toArray w1 fun e w2=>e = .returned (.int k n) ∧ Below w1.heap.size w1 w2:=by
 have hIw:∀ c,I c → w1.heap[c]? = w.heap[c]?:=fun c hc=>hb.block c (rel.imm c hc)
 have rel1:HRel E.G I (fun c=>¬ I c ∧ c < w1.heap.size) ρ (HeapF []) w1:=by
  refine ⟨?_,?_,?_,fun c hc=>Nat.lt_of_lt_of_le (rel.imm c hc) hb.size,fun c hc=>hc.2,fun c hc h=>h.1 hc,fun g cs hg=>?_⟩
  ·intro b o ho;simp [HeapF] at ho
  ·intro b b' m m' ho;simp [HeapF] at ho
  ·intro b m hm;rw [hn b (Nat.zero_le _)] at hm;cases hm
  ·obtain ⟨h1,h2⟩:=rel.glob g cs hg
   exact ⟨h1,VAt.mono (fun _ h=>h) hIw cs (fun _ _ h=>h) (hIw g h1) h2⟩
 have h:=hf I _ ρ w1 cargs rel1 hn (VRels.mono (fun _ h=>h) hIw _ (fun _ _ h=>h) ha)
 rw [XOf_fn hg] at h
 refine Calls.mono h ?_
 rintro e w2 ⟨c,I',ρ',rfl,hret,hv⟩
 simp only [VRel] at hv
 subst hv
 refine ⟨rfl,⟨hret.ext.os,hret.ext.tape,hret.ext.output,hret.ext.size,fun k hk=>hret.ext.keep k ?_⟩⟩
 by_cases hi:I k
 ·exact .inl hi
 ·exact .inr ⟨hi,hk⟩
theorem cube_inv {I:Nat → Prop} {w:World} {ρ:PMap} {x y:Int} {cargs:List Value} (h:VRels I w ρ [.agg [.islice [[.int .u8 x],[.int .u8 y]] (some 2),.islice [] (some 0)]] cargs) (hI:∀ c,I c → c < w.heap.size) :
 ∃ ab ao a2,cargs = [.agg #[.slice (some ⟨ab,ao,none⟩) 2 2,.slice (some a2) 0 0]] ∧ ab < w.heap.size ∧ w.cell? ⟨ab,ao,none⟩ = some (.int .u8 x) ∧ w.cell? ⟨ab,ao + 1,none⟩ = some (.int .u8 y):=by
 simp only [VRels,VRel] at h
 obtain ⟨c,_,rfl,⟨cs,rfl,v1,_,hcs,⟨a,c1,k,rfl,_,hc1,hr⟩,v2,_,rfl,⟨a2,c2,k2,rfl,_,hc2,_⟩,rfl⟩,rfl⟩:=h
 have hc1:=hc1 2 rfl
 have hc2:=hc2 0 rfl
 subst hc1 hc2
 rcases hr with hr|⟨hs,hi,hrows⟩
 ·cases hr
 simp only [VRows,VAt,VRel,List.length_cons,List.length_nil] at hrows
 obtain ⟨rfl,⟨⟨q1,h1,rfl⟩,_⟩,_,⟨⟨q2,h2,rfl⟩,_⟩,_⟩:=hrows
 obtain ⟨ab,ao,sp⟩:=a
 simp only at hs hi h1 h2
 subst hs
 refine ⟨ab,ao,a2,?_,hI _ hi,h1,h2⟩
 congr 2
 apply Array.ext'
 rw [hcs]
 rfl
def t0:Fact:=⟨25,[.agg [.islice [[.int .u8 0],[.int .u8 1]] (some 2),.islice [] (some 0)]],.str [48,49,124]⟩
def t1:Fact:=⟨25,[.agg [.islice [[.int .u8 1],[.int .u8 2]] (some 2),.islice [] (some 0)]],.str [49,88,124]⟩
theorem kc0:FactOk L.env ⟨42,[.agg [.islice [[.int .u8 0],[.int .u8 1]] (some 2),.islice [] (some 0)]],.int .i64 0⟩:=fact_of ok dr facts_nil 60 (by kernel_rfl)
theorem kc1:FactOk L.env ⟨42,[.agg [.islice [[.int .u8 1],[.int .u8 2]] (some 2),.islice [] (some 0)]],.int .i64 0⟩:=fact_of ok dr facts_nil 60 (by kernel_rfl)
theorem kt0:FactOk L.env t0:=by
 refine fact_below (by decide) ?_
 intro I K ρ w cargs rel hn ha
 obtain ⟨ab,ao,a2,rfl,hlt,h1,h2⟩:=cube_inv ha rel.imm
 exact Tryd.text01 ab ao a2 w h1 h2 hlt (fun w1 hb=>below_fact (by decide) kc0 rel hn ha hb)
theorem kt1:FactOk L.env t1:=by
 refine fact_below (by decide) ?_
 intro I K ρ w cargs rel hn ha
 obtain ⟨ab,ao,a2,rfl,hlt,h1,h2⟩:=cube_inv ha rel.imm
 exact Tryd.text1X ab ao a2 w h1 h2 hlt (fun w1 hb=>below_fact (by decide) kc1 rel hn ha hb)
end Go.KInst
