/- Part of a proof. No condition. -/
import Derived.Test.YtbmkmaobejlkgaaDoorKPl
set_option linter.unusedSimpArgs false
set_option linter.unusedVariables false
namespace Go.KInst
open Go.Proofs Go.Ax Go.Pc
set_option maxRecDepth 100000
theorem lives_call {d:Bool} (H:Heap):callV L.env d (sem L.env Mf) (.func (.func 6) [] []) [] H = some (.bool true,H,[]):=
 callV_flat (by kernel_rfl) (by kernel_rfl) rfl rfl lives_sem rfl
theorem tbV_refs (tb:List (List Nat)):refs (tbV tb) = []:=by cases tb<;>rfl
theorem slF_rv (l:List Nat):RV l (slF none (l.map intR)):=by
 cases l with
 | nil=>exact .nil rfl
 | cons a r=>exact .imm none
theorem tbV_tb (tb:List (List Nat)):TBv tb (tbV tb):=by
 cases tb with
 | nil=>exact .nil rfl
 | cons a r=>
  have h:=TBv.imm (tb:=a :: r) ((a :: r).map fun f=>slF none (f.map intR)) none (by simp) (fun i f hf=>⟨slF none (f.map intR),by rw [List.getElem?_map,hf];rfl,slF_rv f⟩)
  rw [List.map_map] at h
  exact h
theorem asc_range {n:Nat} (p:Nat → Bool):∀ (k a:Nat),a + k ≤ n → ∀ z:Int,z < a → Asc n z ((List.range' a k).filter p)
 | 0,a,_,z,_=>trivial
 | k + 1,a,h,z,hz=>by
  rw [List.range'_succ,List.filter_cons]
  split
  ·exact ⟨hz,by omega,asc_range p k (a + 1) (by omega) _ (by omega)⟩
  ·exact asc_range p k (a + 1) (by omega) z (by omega)
theorem rowB_asc (x n:Nat):Asc n (-1) (rowB x n):=by
 unfold rowB
 rw [List.range_eq_range']
 exact asc_range _ n 0 (by omega) (-1) (by omega)
theorem tab_of {xs:List Nat} {n:Nat} (hl:xs.length ≤ 1000) (hn:n ≤ 8):Tab (tabB xs n) n (tbV (tabB xs n)):=by
 refine ⟨tbV_tb _,by simpa [tabB] using hl,by omega,?_⟩
 intro r hr
 obtain ⟨x,_,rfl⟩:=List.mem_map.1 hr
 exact ⟨by have:=rowB_len x n;omega,rowB_asc x n⟩
theorem table_call {d:Bool} (H:Heap) (xs:List Nat) (c:Option (Option Nat)) (hx:∀ x ∈ xs,x < 256) (hl:xs.length ≤ 1000) (m:Nat) (hm:m < 256) :
 callV L.env d (sem L.env Mf) (.func (.func 7) [] []) [sl c (xs.map u8R),.int .u8 m] H = some (.tuple [tbV (tabB xs (m % 9)),.int .i64 (m % 9:Nat)],H,[]):=
 callV_flat (by kernel_rfl) (by kernel_rfl) rfl (by simp only [List.nil_append,List.append_nil,refsL_cons,refs_sl];rfl) (table_ok xs c hx hl m hm) (by simp [refs,refsL,tbV_refs])
theorem reverse_call {d:Bool} (H:Heap) {tb:List (List Nat)} {n:Nat} {A:AV} (h:Tab tb n A):callV L.env d (sem L.env Mf) (.func (.func 8) [] []) [A,.int .i64 n] H = some (.tuple [lsV (later tb n []),.int .i64 0],H,[]):=
 callV_flat (by kernel_rfl) (by kernel_rfl) rfl (by simp [refsL,h.val.refs,refs]) (reverse_ok h) (by simp [refs,refsL,lsV_refs])
theorem greedy_call {tb:List (List Nat)} {n:Nat} {A:AV} (h:Tab tb n A):∃ l,GSel tb n l ∧ ∀ (d:Bool) (H:Heap),callV L.env d (sem L.env Mf) (.func (.func 9) [] []) [A,.int .i64 n] H = some (.tuple [lsV l,.int .i64 0],H,[]):=by
 obtain ⟨r,⟨l,h1,rfl⟩,h2⟩:=greedy_ok h
 exact ⟨l,h1,fun d H=>callV_flat (by kernel_rfl) (by kernel_rfl) rfl (by simp [refsL,h.val.refs,refs]) h2 (by simp [refs,refsL,lsV_refs])⟩
theorem in_callF {l:List Nat} {V:AV} (H:Heap) (hV:RV l V) (hl:l.length < 1000000) {d:Bool} (t:Nat):callV L.env d (sem L.env Mf) (.func (.func 15) [] []) [V,.int .i64 t] H = some (.bool (l.contains t),H,[]):=
 callV_flat (by kernel_rfl) (by kernel_rfl) rfl (by simp [refsL,hV.refs,refs]) (in_ok l V [] hV.ri hl t) rfl
/-- A list that the law makes: nil, or one block. -/
inductive LS (l:List Nat):AV → Heap → Prop
 | nil (h:l = []):LS l .nilslice []
 | blk (c:Option Nat) (h:l ≠ []):LS l (.slice 0 0 l.length c) [some (.row 1 (l.map intR))]
theorem LS.ri {l:List Nat} {V:AV} {H:Heap} (h:LS l V H):RI l V H:=by
 cases h with
 | nil h=>exact .nil h
 | blk c h=>
  have:=RI.blk (l:=l) c [] (by rw [List.append_nil];exact flatI l)
  rwa [List.append_nil] at this
theorem LS.frz {l:List Nat} {V:AV} {H:Heap} (h:LS l V H):∃ W,frzV 0 true (frzD (HeapF H) 0 12) V = some W ∧ RV l W:=by
 cases h with
 | nil h=>exact ⟨.nilslice,rfl,.nil h⟩
 | blk c h=>
  refine ⟨.islice (l.map intR) c,?_,.imm c⟩
  have hb:HeapF [some (.row 1 (l.map intR))] 0 = some (.row 1 (l.map intR)):=rfl
  simp +decide only [go_sem,List.length_map,frzI,takeI]<;>rfl
inductive LN (l:List Nat):AV → Heap → Prop
 | nil (h:l = []):LN l .nilslice []
 | blk (h:l ≠ []):LN l (.slice 0 0 l.length none) [some (.row 1 (l.map intR))]
theorem LN.ls {l:List Nat} {V:AV} {H:Heap} (h:LN l V H):LS l V H:=by
 cases h with
 | nil h=>exact .nil h
 | blk h=>exact .blk none h
end Go.KInst
