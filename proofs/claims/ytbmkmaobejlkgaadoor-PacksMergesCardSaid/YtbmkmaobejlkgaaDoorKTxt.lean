/- cubes.Text at two given cubes of two values: walked with strings.Builder's contracts. -/
import Derived.Test.YtbmkmaobejlkgaaDoorKBld
import Derived.LoopN
set_option linter.unusedSimpArgs false
set_option linter.unusedVariables false
namespace Go.Proofs
open Go.Shelf Go.RowKit
/-- What stays of the argument while the text is built. -/
structure TxtIn (n ab ao:Nat) (a2:Addr) (x y:Int) (W:World):Prop where
 b0:W.cell? ⟨n,0,none⟩ = some (.slice (some ⟨ab,ao,none⟩) 2 2)
 b1:W.cell? ⟨n,1,none⟩ = some (.slice (some a2) 0 0)
 b2:W.cell? ⟨ab,ao,none⟩ = some (.int .u8 x)
 b3:W.cell? ⟨ab,ao + 1,none⟩ = some (.int .u8 y)
theorem TxtIn.keep {n ab ao:Nat} {a2:Addr} {x y:Int} {W W':World} {B:Nat} (h:TxtIn n ab ao a2 x y W) (k:Below B W W') (hn:n < B) (ha:ab < B):TxtIn n ab ao a2 x y W':=by
 refine ⟨?_,?_,?_,?_⟩
 ·rw [k.cell hn];exact h.b0
 ·rw [k.cell hn];exact h.b1
 ·rw [k.cell (p:=⟨ab,ao,none⟩) ha];exact h.b2
 ·rw [k.cell (p:=⟨ab,ao + 1,none⟩) ha];exact h.b3
theorem txt_new (w:World) (o:Obj):(w.alloc o).heap[w.heap.size]? = some o:=by
 show (w.heap.push o)[w.heap.size]? = _
 simp
set_option maxHeartbeats 2000000 in
set_option maxRecDepth 100000 in
theorem Tryd.text01 (ab ao:Nat) (a2:Addr) (w:World) (hc0:w.cell? ⟨ab,ao,none⟩ = some (.int .u8 0)) (hc1:w.cell? ⟨ab,ao + 1,none⟩ = some (.int .u8 1)) (hlt:ab < w.heap.size)
 (hcheck:∀ w1,Below w.heap.size w w1 → Calls Tryd.prog 42 #[.agg #[.slice (some ⟨ab,ao,none⟩) 2 2,.slice (some a2) 0 0]] w1 fun e w2=>e = .returned (.int .i64 0) ∧ Below w1.heap.size w1 w2) :
 Calls Tryd.prog 25 #[.agg #[.slice (some ⟨ab,ao,none⟩) 2 2,.slice (some a2) 0 0]] w fun e w'=>e = .returned (.string ⟨#[48,49,124]⟩) ∧ Below w.heap.size w w':=by
 go_enter Tryd.func25,Tryd.ntmps25
 go_wp2_with (go_at_call 42;refine (hcheck _ ?_).mono ?_)
 case refine_1=>exact (Below.refl _ w).alloc (Nat.le_refl _) _
 rintro e w1 ⟨rfl,hb⟩
 have hbox:TxtIn w.heap.size ab ao a2 0 1 (w.alloc (.cells #[.slice (some ⟨ab,ao,none⟩) 2 2,.slice (some a2) 0 0] 45)):=by
  refine ⟨?_,?_,?_,?_⟩
  ·rw [Lib.cell_of_heap (txt_new w _)];rfl
  ·rw [Lib.cell_of_heap (txt_new w _)];rfl
  ·rw [World.cell?_of_block (w:=w) (a:=⟨ab,ao,none⟩) (Below.heap_alloc w _ _ hlt)];exact hc0
  ·rw [World.cell?_of_block (w:=w) (a:=⟨ab,ao + 1,none⟩) (Below.heap_alloc w _ _ hlt)];exact hc1
 have hn1:w.heap.size < w1.heap.size:=by have:=hb.size;simp at this;omega
 have h1:TxtIn w.heap.size ab ao a2 0 1 w1:=hbox.keep hb (by simp) (by simp;omega)
 have hw1:Below w.heap.size w w1:=((Below.refl _ w).alloc (Nat.le_refl _) _).trans (hb.mono (by simp))
 have h2:TxtIn w.heap.size ab ao a2 0 1 (w1.alloc (Obj.cells #[Value.pointer none,Value.slice none 0 0] 91)):=
  h1.keep ((Below.refl w1.heap.size w1).alloc (Nat.le_refl _) _) hn1 (by omega)
 have hbld:Lib.IsBuilder 91 5 w1.heap.size w1.heap.size [] (w1.alloc (Obj.cells #[Value.pointer none,Value.slice none 0 0] 91)):=Lib.fresh_isBuilder 91 5 w1
 have hs0:w1.heap.size ≤ (w1.alloc (Obj.cells #[Value.pointer none,Value.slice none 0 0] 91)).heap.size:=by simp
 have hk0:Below w1.heap.size w1 (w1.alloc (Obj.cells #[Value.pointer none,Value.slice none 0 0] 91)):=(Below.refl w1.heap.size w1).alloc (Nat.le_refl _) _
 obtain ⟨c0,c1,c2,c3⟩:=id h2
 go_wp2
 refine wp_loop_rounds 3 ?_
 rw [rounds_succ]
 go_wp2_with (go_at_call 57;refine (Tryd.bWrite w1.heap.size w1.heap.size [] 48 _ hbld (by simp) hs0).mono ?_)
 rintro e w2 ⟨rfl,hb2,hk2⟩
 have h3:=h2.keep hk2 hn1 (by omega)
 obtain ⟨e0,e1,e2,e3⟩:=id h3
 clear c0 c1 c2 c3
 go_wp2
 rw [rounds_succ]
 go_wp2_with (go_at_call 57;refine (Tryd.bWrite w1.heap.size w1.heap.size _ 49 _ (.inr hb2) (by simp) (Nat.le_trans hs0 hk2.size)).mono ?_)
 rintro e w3 ⟨rfl,hb3,hk3⟩
 have h4:=h3.keep hk3 hn1 (by omega)
 obtain ⟨f0,f1,f2,f3⟩:=id h4
 clear e0 e1 e2 e3
 go_wp2
 rw [rounds_succ]
 go_wp2_with (go_at_call 57;refine (Tryd.bWrite w1.heap.size w1.heap.size _ 124 _ (.inr hb3) (by simp) (Nat.le_trans hs0 (Nat.le_trans hk2.size hk3.size))).mono ?_)
 rintro e w4 ⟨rfl,hb4,hk4⟩
 have h5:=h4.keep hk4 hn1 (by omega)
 obtain ⟨g0,g1,g2,g3⟩:=id h5
 clear f0 f1 f2 f3
 go_wp2
 refine wp_loop_rounds 1 ?_
 rw [rounds_succ]
 go_wp2_with (go_at_call 58;refine (Tryd.bString w1.heap.size w1.heap.size [48,49,124] _ (.inr hb4) (Nat.le_trans hs0 (Nat.le_trans hk2.size (Nat.le_trans hk3.size hk4.size)))).mono ?_)
 rintro e w5 ⟨rfl,hk5⟩
 go_wp2
 go_ret
 refine ⟨rfl,hw1.trans (Below.mono (((((hk0.trans hk2).trans hk3).trans hk4).trans hk5)) (Nat.le_of_lt hn1))⟩
set_option maxHeartbeats 2000000 in
set_option maxRecDepth 100000 in
theorem Tryd.text1X (ab ao:Nat) (a2:Addr) (w:World) (hc0:w.cell? ⟨ab,ao,none⟩ = some (.int .u8 1)) (hc1:w.cell? ⟨ab,ao + 1,none⟩ = some (.int .u8 2)) (hlt:ab < w.heap.size)
 (hcheck:∀ w1,Below w.heap.size w w1 → Calls Tryd.prog 42 #[.agg #[.slice (some ⟨ab,ao,none⟩) 2 2,.slice (some a2) 0 0]] w1 fun e w2=>e = .returned (.int .i64 0) ∧ Below w1.heap.size w1 w2) :
 Calls Tryd.prog 25 #[.agg #[.slice (some ⟨ab,ao,none⟩) 2 2,.slice (some a2) 0 0]] w fun e w'=>e = .returned (.string ⟨#[49,88,124]⟩) ∧ Below w.heap.size w w':=by
 go_enter Tryd.func25,Tryd.ntmps25
 go_wp2_with (go_at_call 42;refine (hcheck _ ?_).mono ?_)
 case refine_1=>exact (Below.refl _ w).alloc (Nat.le_refl _) _
 rintro e w1 ⟨rfl,hb⟩
 have hbox:TxtIn w.heap.size ab ao a2 1 2 (w.alloc (.cells #[.slice (some ⟨ab,ao,none⟩) 2 2,.slice (some a2) 0 0] 45)):=by
  refine ⟨?_,?_,?_,?_⟩
  ·rw [Lib.cell_of_heap (txt_new w _)];rfl
  ·rw [Lib.cell_of_heap (txt_new w _)];rfl
  ·rw [World.cell?_of_block (w:=w) (a:=⟨ab,ao,none⟩) (Below.heap_alloc w _ _ hlt)];exact hc0
  ·rw [World.cell?_of_block (w:=w) (a:=⟨ab,ao + 1,none⟩) (Below.heap_alloc w _ _ hlt)];exact hc1
 have hn1:w.heap.size < w1.heap.size:=by have:=hb.size;simp at this;omega
 have h1:TxtIn w.heap.size ab ao a2 1 2 w1:=hbox.keep hb (by simp) (by simp;omega)
 have hw1:Below w.heap.size w w1:=((Below.refl _ w).alloc (Nat.le_refl _) _).trans (hb.mono (by simp))
 have h2:TxtIn w.heap.size ab ao a2 1 2 (w1.alloc (Obj.cells #[Value.pointer none,Value.slice none 0 0] 91)):=
  h1.keep ((Below.refl w1.heap.size w1).alloc (Nat.le_refl _) _) hn1 (by omega)
 have hbld:Lib.IsBuilder 91 5 w1.heap.size w1.heap.size [] (w1.alloc (Obj.cells #[Value.pointer none,Value.slice none 0 0] 91)):=Lib.fresh_isBuilder 91 5 w1
 have hs0:w1.heap.size ≤ (w1.alloc (Obj.cells #[Value.pointer none,Value.slice none 0 0] 91)).heap.size:=by simp
 have hk0:Below w1.heap.size w1 (w1.alloc (Obj.cells #[Value.pointer none,Value.slice none 0 0] 91)):=(Below.refl w1.heap.size w1).alloc (Nat.le_refl _) _
 obtain ⟨c0,c1,c2,c3⟩:=id h2
 go_wp2
 refine wp_loop_rounds 3 ?_
 rw [rounds_succ]
 go_wp2_with (go_at_call 57;refine (Tryd.bWrite w1.heap.size w1.heap.size [] 49 _ hbld (by simp) hs0).mono ?_)
 rintro e w2 ⟨rfl,hb2,hk2⟩
 have h3:=h2.keep hk2 hn1 (by omega)
 obtain ⟨e0,e1,e2,e3⟩:=id h3
 clear c0 c1 c2 c3
 go_wp2
 rw [rounds_succ]
 go_wp2_with (go_at_call 57;refine (Tryd.bWrite w1.heap.size w1.heap.size _ 88 _ (.inr hb2) (by simp) (Nat.le_trans hs0 hk2.size)).mono ?_)
 rintro e w3 ⟨rfl,hb3,hk3⟩
 have h4:=h3.keep hk3 hn1 (by omega)
 obtain ⟨f0,f1,f2,f3⟩:=id h4
 clear e0 e1 e2 e3
 go_wp2
 rw [rounds_succ]
 go_wp2_with (go_at_call 57;refine (Tryd.bWrite w1.heap.size w1.heap.size _ 124 _ (.inr hb3) (by simp) (Nat.le_trans hs0 (Nat.le_trans hk2.size hk3.size))).mono ?_)
 rintro e w4 ⟨rfl,hb4,hk4⟩
 have h5:=h4.keep hk4 hn1 (by omega)
 obtain ⟨g0,g1,g2,g3⟩:=id h5
 clear f0 f1 f2 f3
 go_wp2
 refine wp_loop_rounds 1 ?_
 rw [rounds_succ]
 go_wp2_with (go_at_call 58;refine (Tryd.bString w1.heap.size w1.heap.size [49,88,124] _ (.inr hb4) (Nat.le_trans hs0 (Nat.le_trans hk2.size (Nat.le_trans hk3.size hk4.size)))).mono ?_)
 rintro e w5 ⟨rfl,hk5⟩
 go_wp2
 go_ret
 refine ⟨rfl,hw1.trans (Below.mono (((((hk0.trans hk2).trans hk3).trans hk4).trans hk5)) (Nat.le_of_lt hn1))⟩
end Go.Proofs
