/- The library's strings.Builder at this program: copyCheck, WriteByte and String. -/
import Derived.Shelf.Strings.Builder1
import Derived.Test.YtbmkmaobejlkgaaGreatDoorProg
import Derived.KernelRfl
import Derived.LoopN
import Derived.Test.YtbmkmaobejlkgaaGreatDoorQGa
import Derived.Test.YtbmkmaobejlkgaaGreatDoorAxD
set_option linter.unusedSimpArgs false
set_option linter.unusedVariables false
namespace Go.Proofs
set_option maxHeartbeats 200000000
open Go.Shelf Go.RowKit
theorem Tryz.bInfo:∃j,Tryz.prog.info? 136=some j∧j.size=2:=by
 have h:(Tryz.prog.info? 136).map (·.size)=some 2:=by kernel_rfl
 obtain⟨j,hj,hs⟩:=Option.map_eq_some_iff.1 h;exact⟨j,hj,hs⟩
theorem Tryz.bLies:liesAt Tryz.prog Tryz.prog.depth 136 (2/Tryz.prog.cellsOf 136) 0 136 1=true:=by kernel_rfl
set_option maxRecDepth 100000 in
theorem Tryz.bCheck_used(b:Nat)(w:World)(h0:w.cell? ⟨b,0,none⟩=some (.pointer (some ⟨b,0,none⟩))) :
 Calls Tryz.prog 115 #[.pointer (some ⟨b,0,none⟩)] w λe w'=>e = .returned (.tuple #[])∧w'=w:=by
 obtain⟨j,hj,_⟩:=Tryz.bInfo
 go_enter Tryz.func115,Tryz.ntmps115
 go_wp2
 rw[Lib.run_neq_ptr_same w _ Tryz.underlying134 hj]
 go_wp2
 go_end0
 exact⟨rfl,rfl⟩
set_option maxRecDepth 100000 in
theorem Tryz.bCheck_fresh(b:Nat)(w:World)(h0:w.cell? ⟨b,0,none⟩=some (.pointer none))(kL:w.shape? b=some (136,2))(r8:w.frozen? ⟨b,0,none⟩=false) :
 Calls Tryz.prog 115 #[.pointer (some ⟨b,0,none⟩)] w λe w'=>e = .returned (.tuple #[])∧w'=w.setCell ⟨b,0,none⟩ (.pointer (some ⟨b,0,none⟩)):=by
 obtain⟨j,hj,tH⟩:=Tryz.bInfo
 go_enter Tryz.func115,Tryz.ntmps115
 go_wp2
 rw[Lib.run_to_unsafe w ⟨b,0,none⟩ Tryz.underlying134 Tryz.underlying227 hj (by rw[tH];decide) kL (Nat.zero_lt_succ 1)];simp only[Result.andThen];rw[Oper.upon_value]
 go_wp2
 rw[run_callFunc_extern Tryz.func153 (by kernel_rfl) (by kernel_rfl) (by kernel_rfl) (e:=Extern.AbiNoEscape.same) (by kernel_rfl)];rw[Lib.run_noEscape];simp only[Result.andThen];rw[Oper.upon_value]
 go_wp2
 rw[Lib.run_from_unsafe w ⟨b,0,none⟩ Tryz.underlying227 Tryz.underlying134 hj kL Tryz.bLies];simp only[Result.andThen];rw[Oper.upon_value]
 go_wp2
 go_end0
 exact⟨rfl,rfl⟩
theorem Tryz.bCheck(B b:Nat)(bs:List Value)(w:World)(h:Lib.IsBuilder 136 5 B b bs w) :
 Calls Tryz.prog 115 #[.pointer (some ⟨b,0,none⟩)] w λe w'=>e = .returned (.tuple #[])∧(Lib.BuilderAt 136 5 B b (.pointer (some ⟨b,0,none⟩)) bs w'∧Below B w w'):=by
 rcases h with h|h
 ·refine(Tryz.bCheck_fresh b w h.cell0 h.shape h.frozen0).mono ?_
  rintro e w' ⟨rfl,rfl⟩
  exact⟨rfl,h.used _,(Below.refl B w).setCell (p:=⟨b,0,none⟩) h.1 _⟩
 ·refine(Tryz.bCheck_used b w h.cell0).mono ?_
  rintro e w' ⟨rfl,rfl⟩
  exact⟨rfl,h,Below.refl B _⟩
set_option maxRecDepth 100000 in
theorem Tryz.bWrite(B b:Nat)(bs:List Value)(c:Int)(w:World)(h:Lib.IsBuilder 136 5 B b bs w)(ai:bs.length+1≤140737488355328)(sH:B≤w.heap.size) :
 Calls Tryz.prog 74 #[.pointer (some ⟨b,0,none⟩),.int .u8 c] w λe w'=>e = .returned .nilIface∧(Lib.BuilderAt 136 5 B b (.pointer (some ⟨b,0,none⟩)) (bs++[.int .u8 c]) w'∧Below B w w'):=by
 have je:(Tryz.prog.info? 5).map (λi=>(i.zero,i.size,i.bytes))=some (some (Value.int IntKind.u8 0),1,1):=by kernel_rfl
 obtain⟨i0,hi,oE,sW,oD⟩:=info_parts je
 go_enter Tryz.func74,Tryz.ntmps74
 go_wp2_with (go_at_call 115;refine(Tryz.bCheck B b bs _ h).mono ?_)
 rintro e w1 ⟨rfl,h1,cj⟩
 obtain⟨hB,v,ml,mY,au⟩:=h1;have c0:w1.cell? ⟨b,0,none⟩=some (.pointer (some ⟨b,0,none⟩)):=by rw[Lib.cell_of_heap ml];rfl
 have c1:w1.cell? ⟨b,1,none⟩=some v:=by rw[Lib.cell_of_heap ml];rfl
 go_wp2_with (at_builtin;refine wpList_append_own _ rfl _ _ 25 rfl B 5 i0 (.int .u8 0) 1 1 Tryz.underlying25 hi oE sW oD rfl (by decide) _ _ _ rfl (mY.alloc _) ⟨w1.heap.size,0,none⟩ 1 1 [.int .u8 c] rfl rfl ?c1 ?c2 ?c3 ?c4 ?c5 ?_)
 case c1=>
  intro j u hj
  match j,hj with
  |0,hj=>simp at hj;subst hj;simp[Addr.add]
 case c2=>intro u hu;simp at hu;subst hu;rfl
 case c3=>unfold maxLen;omega
 case c4=>omega
 case c5=>have:=cj.size;simp;omega
 intro v' w2 jZ j9 _;have ag:b<w1.heap.size:=by
  rcases Nat.lt_or_ge b w1.heap.size with h'|h'
  ·exact h'
  ·simp[Array.getElem?_eq_none h']at ml
 have cN:w2.heap[b]?=some (.cells #[.pointer (some ⟨b,0,none⟩),v] 136 (0,0)):=by rw[j9.block b (by simp;omega) (λe=>au e.symm),Lib.alloc_old w1 _ b ag];exact ml
 have d0:w2.cell? ⟨b,0,none⟩=some (.pointer (some ⟨b,0,none⟩)):=by rw[Lib.cell_of_heap cN];rfl
 have d1:w2.cell? ⟨b,1,none⟩=some v:=by rw[Lib.cell_of_heap cN];rfl
 have f1:w2.frozen? ⟨b,1,none⟩=false:=Lib.frozen_of_heap cN 1;obtain⟨g,cap,rfl⟩:∃g cap,v' = .slice (some ⟨g,0,none⟩) (bs.length+1) cap:=by
  rcases jZ.2 with ⟨_,h0⟩|⟨g,cap,cur,hv,_⟩
  ·omega
  ·exact⟨g,cap,hv⟩
 go_wp2
 go_ret
 refine⟨rfl,?_,?_⟩
 ·exact Lib.BuilderAt.put (T:=136) (e:=5) hB cN (bs':=bs++[.int .u8 c]) (by simpa using jZ) (by decide)
 ·exact((cj.alloc (by have:=cj.size;omega) _).grown j9 (by have:=cj.size;simp;omega) (λk hk=>(mY.lt k hk).1)).setCell (p:=⟨b,1,none⟩) hB _
def Tryz.lays169_ren : Go.Shelf.Ren := ⟨fun | 169 => 75 | n => n, fun | 70 => 134 | 9 => 9 | 0 => 0 | 72 => 136 | 37 => 25 | 127 => 194 | 3 => 3 | 5 => 5 | n => n, fun | n => n⟩
theorem Tryz.lays169 : Go.Proofs.Lays.n169 Tryz.prog Tryz.lays169_ren := {
  mixed := by kernel_rfl
  f169 := Tryz.func75.trans (congrArg some (by kernel_rfl))
  t0 := Tryz.underlying0
  a0 := Tryz.isAgg0
  z0 := Tryz.sizeOf0
  v0 := Tryz.zeroValue0
  t3 := Tryz.underlying3
  a3 := Tryz.isAgg3
  z3 := Tryz.sizeOf3
  v3 := Tryz.zeroValue3
  t9 := Tryz.underlying9
  a9 := Tryz.isAgg9
  z9 := Tryz.sizeOf9
  v9 := Tryz.zeroValue9
  t37 := Tryz.underlying25
  a37 := Tryz.isAgg25
  z37 := Tryz.sizeOf25
  v37 := Tryz.zeroValue25
  t70 := Tryz.underlying134
  a70 := Tryz.isAgg134
  z70 := Tryz.sizeOf134
  v70 := Tryz.zeroValue134
  t72 := Tryz.underlying136
  a72 := Tryz.isAgg136
  z72 := Tryz.sizeOf136
  v72 := Tryz.zeroValue136
  t127 := Tryz.underlying194
  a127 := Tryz.isAgg194
  z127 := Tryz.sizeOf194
  v127 := Tryz.zeroValue194 }
theorem Tryz.bExtra169:Builder.Extra Tryz.prog Tryz.lays169_ren:={
 sizeBuilder:=by kernel_rfl
 liesBuilder:=by kernel_rfl
 t5:=Tryz.underlying5
 a5:=Tryz.isAgg5
 z5:=Tryz.sizeOf5
 v5:=Tryz.zeroValue5
 infoByte:=by kernel_rfl
 cellsByte:=by kernel_rfl
 sizeByte:=by kernel_rfl
 neB5:=by decide}
theorem Tryz.bString(B b:Nat)(l:List UInt8)(w:World)(h:Lib.IsBuilder 136 5 B b (Lib.byteCells l) w)(sH:B≤w.heap.size) :
 Calls Tryz.prog 75 #[.pointer (some ⟨b,0,none⟩)] w λe w'=>e = .returned (.string ⟨l.toArray⟩)∧Below B w w':=Any.Builder_String_any Tryz.lays169 Tryz.bExtra169 B b l w h sH
#print axioms Tryz.bWrite
#print axioms Tryz.bString
end Go.Proofs
/- cubes.Text at two given cubes of two values: walked with strings.Builder's contracts. -/
namespace Go.Proofs
set_option maxHeartbeats 200000000
open Go.Shelf Go.RowKit
structure TxtIn(n ab ao:Nat)(a2:Addr)(x y:Int)(W:World):Prop where
 b0:W.cell? ⟨n,0,none⟩=some (.slice (some ⟨ab,ao,none⟩) 2 2)
 b1:W.cell? ⟨n,1,none⟩=some (.slice (some a2) 0 0)
 b2:W.cell? ⟨ab,ao,none⟩=some (.int .u8 x)
 b3:W.cell? ⟨ab,ao+1,none⟩=some (.int .u8 y)
theorem TxtIn.keep{n ab ao:Nat}{a2:Addr}{x y:Int}{W W':World}{B:Nat}(h:TxtIn n ab ao a2 x y W)(k:Below B W W')(hn:n<B)(ha:ab<B):TxtIn n ab ao a2 x y W':=by
 refine⟨?_,?_,?_,?_⟩
 ·rw[k.cell hn];exact h.b0
 ·rw[k.cell hn];exact h.b1
 ·rw[k.cell (p:=⟨ab,ao,none⟩) ha];exact h.b2
 ·rw[k.cell (p:=⟨ab,ao+1,none⟩) ha];exact h.b3
theorem b7d(w:World)(o:Obj):(w.alloc o).heap[w.heap.size]?=some o:=by show(w.heap.push o)[w.heap.size]?=_;simp
set_option maxRecDepth 100000 in
theorem Tryz.text01(ab ao:Nat)(a2:Addr)(w:World)(lE:w.cell? ⟨ab,ao,none⟩=some (.int .u8 0))(dZ:w.cell? ⟨ab,ao+1,none⟩=some (.int .u8 1))(ag:ab<w.heap.size)
 (gj:∀w1,Below w.heap.size w w1→Calls Tryz.prog 21 #[.agg #[.slice (some ⟨ab,ao,none⟩) 2 2,.slice (some a2) 0 0]] w1 λe w2=>e = .returned (.int .i64 0)∧Below w1.heap.size w1 w2) :
 Calls Tryz.prog 30 #[.agg #[.slice (some ⟨ab,ao,none⟩) 2 2,.slice (some a2) 0 0]] w λe w'=>e = .returned (.string ⟨#[48,49,124]⟩)∧Below w.heap.size w w':=by
 go_enter Tryz.func30,Tryz.ntmps30
 go_wp2_with (go_at_call 21;refine(gj _ ?_).mono ?_)
 case refine_1=>exact(Below.refl _ w).alloc (Nat.le_refl _) _
 rintro e w1 ⟨rfl,hb⟩
 have lF:TxtIn w.heap.size ab ao a2 0 1 (w.alloc (.cells #[.slice (some ⟨ab,ao,none⟩) 2 2,.slice (some a2) 0 0] 51)):=by
  refine⟨?_,?_,?_,?_⟩
  ·rw[Lib.cell_of_heap (b7d w _)];rfl
  ·rw[Lib.cell_of_heap (b7d w _)];rfl
  ·rw[World.cell?_of_block (w:=w) (a:=⟨ab,ao,none⟩) (Below.heap_alloc w _ _ ag)];exact lE
  ·rw[World.cell?_of_block (w:=w) (a:=⟨ab,ao+1,none⟩) (Below.heap_alloc w _ _ ag)];exact dZ
 have a9:w.heap.size<w1.heap.size:=by have:=hb.size;simp at this;omega
 have h1:TxtIn w.heap.size ab ao a2 0 1 w1:=lF.keep hb (by simp) (by simp;omega);have jR:Below w.heap.size w w1:=((Below.refl _ w).alloc (Nat.le_refl _) _).trans (hb.mono (by simp));have h2:TxtIn w.heap.size ab ao a2 0 1 (w1.alloc (Obj.cells #[Value.pointer none,Value.slice none 0 0] 136)):=h1.keep ((Below.refl w1.heap.size w1).alloc (Nat.le_refl _) _) a9 (by omega);have lH:Lib.IsBuilder 136 5 w1.heap.size w1.heap.size [] (w1.alloc (Obj.cells #[Value.pointer none,Value.slice none 0 0] 136)):=Lib.fresh_isBuilder 136 5 w1;have g8:w1.heap.size≤(w1.alloc (Obj.cells #[Value.pointer none,Value.slice none 0 0] 136)).heap.size:=by simp
 have hk0:Below w1.heap.size w1 (w1.alloc (Obj.cells #[Value.pointer none,Value.slice none 0 0] 136)):=(Below.refl w1.heap.size w1).alloc (Nat.le_refl _) _;obtain⟨c0,c1,c2,c3⟩:=id h2
 go_wp2
 refine wp_loop_rounds 3 ?_;rw[rounds_succ]
 go_wp2_with (go_at_call 74;refine(Tryz.bWrite w1.heap.size w1.heap.size [] 48 _ lH (by simp) g8).mono ?_)
 rintro e w2 ⟨rfl,cN,dB⟩
 have h3:=h2.keep dB a9 (by omega);obtain⟨e0,e1,e2,e3⟩:=id h3;clear c0 c1 c2 c3
 go_wp2
 rw[rounds_succ]
 go_wp2_with (go_at_call 74;refine(Tryz.bWrite w1.heap.size w1.heap.size _ 49 _ (.inr cN) (by simp) (Nat.le_trans g8 dB.size)).mono ?_)
 rintro e w3 ⟨rfl,mn,jz⟩
 have h4:=h3.keep jz a9 (by omega);obtain⟨f0,f1,f2,f3⟩:=id h4;clear e0 e1 e2 e3
 go_wp2
 rw[rounds_succ]
 go_wp2_with (go_at_call 74;refine(Tryz.bWrite w1.heap.size w1.heap.size _ 124 _ (.inr mn) (by simp) (Nat.le_trans g8 (Nat.le_trans dB.size jz.size))).mono ?_)
 rintro e w4 ⟨rfl,qF,lh⟩
 have h5:=h4.keep lh a9 (by omega);obtain⟨g0,g1,g2,g3⟩:=id h5;clear f0 f1 f2 f3
 go_wp2
 refine wp_loop_rounds 1 ?_;rw[rounds_succ]
 go_wp2_with (go_at_call 75;refine(Tryz.bString w1.heap.size w1.heap.size [48,49,124] _ (.inr qF) (Nat.le_trans g8 (Nat.le_trans dB.size (Nat.le_trans jz.size lh.size)))).mono ?_)
 rintro e w5 ⟨rfl,p8⟩
 go_wp2
 go_ret
 refine⟨rfl,jR.trans (Below.mono (((((hk0.trans dB).trans jz).trans lh).trans p8)) (Nat.le_of_lt a9))⟩
set_option maxRecDepth 100000 in
theorem Tryz.text1X(ab ao:Nat)(a2:Addr)(w:World)(lE:w.cell? ⟨ab,ao,none⟩=some (.int .u8 1))(dZ:w.cell? ⟨ab,ao+1,none⟩=some (.int .u8 2))(ag:ab<w.heap.size)
 (gj:∀w1,Below w.heap.size w w1→Calls Tryz.prog 21 #[.agg #[.slice (some ⟨ab,ao,none⟩) 2 2,.slice (some a2) 0 0]] w1 λe w2=>e = .returned (.int .i64 0)∧Below w1.heap.size w1 w2) :
 Calls Tryz.prog 30 #[.agg #[.slice (some ⟨ab,ao,none⟩) 2 2,.slice (some a2) 0 0]] w λe w'=>e = .returned (.string ⟨#[49,88,124]⟩)∧Below w.heap.size w w':=by
 go_enter Tryz.func30,Tryz.ntmps30
 go_wp2_with (go_at_call 21;refine(gj _ ?_).mono ?_)
 case refine_1=>exact(Below.refl _ w).alloc (Nat.le_refl _) _
 rintro e w1 ⟨rfl,hb⟩
 have lF:TxtIn w.heap.size ab ao a2 1 2 (w.alloc (.cells #[.slice (some ⟨ab,ao,none⟩) 2 2,.slice (some a2) 0 0] 51)):=by
  refine⟨?_,?_,?_,?_⟩
  ·rw[Lib.cell_of_heap (b7d w _)];rfl
  ·rw[Lib.cell_of_heap (b7d w _)];rfl
  ·rw[World.cell?_of_block (w:=w) (a:=⟨ab,ao,none⟩) (Below.heap_alloc w _ _ ag)];exact lE
  ·rw[World.cell?_of_block (w:=w) (a:=⟨ab,ao+1,none⟩) (Below.heap_alloc w _ _ ag)];exact dZ
 have a9:w.heap.size<w1.heap.size:=by have:=hb.size;simp at this;omega
 have h1:TxtIn w.heap.size ab ao a2 1 2 w1:=lF.keep hb (by simp) (by simp;omega);have jR:Below w.heap.size w w1:=((Below.refl _ w).alloc (Nat.le_refl _) _).trans (hb.mono (by simp));have h2:TxtIn w.heap.size ab ao a2 1 2 (w1.alloc (Obj.cells #[Value.pointer none,Value.slice none 0 0] 136)):=h1.keep ((Below.refl w1.heap.size w1).alloc (Nat.le_refl _) _) a9 (by omega);have lH:Lib.IsBuilder 136 5 w1.heap.size w1.heap.size [] (w1.alloc (Obj.cells #[Value.pointer none,Value.slice none 0 0] 136)):=Lib.fresh_isBuilder 136 5 w1;have g8:w1.heap.size≤(w1.alloc (Obj.cells #[Value.pointer none,Value.slice none 0 0] 136)).heap.size:=by simp
 have hk0:Below w1.heap.size w1 (w1.alloc (Obj.cells #[Value.pointer none,Value.slice none 0 0] 136)):=(Below.refl w1.heap.size w1).alloc (Nat.le_refl _) _;obtain⟨c0,c1,c2,c3⟩:=id h2
 go_wp2
 refine wp_loop_rounds 3 ?_;rw[rounds_succ]
 go_wp2_with (go_at_call 74;refine(Tryz.bWrite w1.heap.size w1.heap.size [] 49 _ lH (by simp) g8).mono ?_)
 rintro e w2 ⟨rfl,cN,dB⟩
 have h3:=h2.keep dB a9 (by omega);obtain⟨e0,e1,e2,e3⟩:=id h3;clear c0 c1 c2 c3
 go_wp2
 rw[rounds_succ]
 go_wp2_with (go_at_call 74;refine(Tryz.bWrite w1.heap.size w1.heap.size _ 88 _ (.inr cN) (by simp) (Nat.le_trans g8 dB.size)).mono ?_)
 rintro e w3 ⟨rfl,mn,jz⟩
 have h4:=h3.keep jz a9 (by omega);obtain⟨f0,f1,f2,f3⟩:=id h4;clear e0 e1 e2 e3
 go_wp2
 rw[rounds_succ]
 go_wp2_with (go_at_call 74;refine(Tryz.bWrite w1.heap.size w1.heap.size _ 124 _ (.inr mn) (by simp) (Nat.le_trans g8 (Nat.le_trans dB.size jz.size))).mono ?_)
 rintro e w4 ⟨rfl,qF,lh⟩
 have h5:=h4.keep lh a9 (by omega);obtain⟨g0,g1,g2,g3⟩:=id h5;clear f0 f1 f2 f3
 go_wp2
 refine wp_loop_rounds 1 ?_;rw[rounds_succ]
 go_wp2_with (go_at_call 75;refine(Tryz.bString w1.heap.size w1.heap.size [49,88,124] _ (.inr qF) (Nat.le_trans g8 (Nat.le_trans dB.size (Nat.le_trans jz.size lh.size)))).mono ?_)
 rintro e w5 ⟨rfl,p8⟩
 go_wp2
 go_ret
 refine⟨rfl,jR.trans (Below.mono (((((hk0.trans dB).trans jz).trans lh).trans p8)) (Nat.le_of_lt a9))⟩
end Go.Proofs
/- KText: what cubes.Text answers at two given cubes. -/
namespace Go.QInst
open Go.Proofs Go.Ax Go.RowKit
theorem b6s{E:Env}{g:Nat}{args:List AV}{s:List UInt8}(hg:g≠yId)
 (h:∀(I K:Nat→Prop) (ρ:PMap) (w:World) (ak:List Value),HRel E.G I K ρ (a01 []) w→NRel ρ 0→VRels I w ρ args ak→Calls E.P g ak.toArray w λe w'=>e = .returned (.string ⟨s.toArray⟩)∧Below w.heap.size w w') :
 a0m E ⟨g,args,.str s⟩:=by
 intro I K ρ w ak rel hn ha;show XOf E g ak w _;rw[b0b hg];refine Calls.mono (h I K ρ w ak rel hn ha) ?_
 rintro e w' ⟨rfl,hb⟩
 have bM:∀c,I c→w'.heap[c]?=w.heap[c]?:=λc hc=>hb.block c (rel.imm c hc);refine⟨_,I,ρ,rfl,⟨λ_ h=>h,λ_ _=>rfl,⟨hb.os,hb.tape,hb.output,hb.size,λc hc=>hb.block c (hc.elim (rel.imm c) (rel.kept c))⟩,?_,hn,f0h _⟩,?_⟩
 ·refine⟨?_,?_,?_,λc hc=>Nat.lt_of_lt_of_le (rel.imm c hc) hb.size,λc hc=>Nat.lt_of_lt_of_le (rel.kept c hc) hb.size,rel.apart,λg cs hg=>?_⟩
  ·intro b o ho;simp[a01]at ho
  ·intro b b' m m' ho;simp[a01]at ho
  ·intro b m hm;rw[hn b (f0h _)]at hm;cases hm
  ·obtain⟨h1,h2⟩:=rel.glob g cs hg;exact⟨h1,VAt.mono (λ_ h=>h) bM cs (λ_ _ h=>h) (bM g h1) h2⟩
 ·simp only[VRel];exact⟨_,rfl,by simp⟩
theorem b71{E:Env}{g:Nat}{args:List AV}{k:IntKind}{n:Int}(hg:g≠yId)(hf:a0m E ⟨g,args,.int k n⟩){I K:Nat→Prop}{ρ:PMap}{w w1:World}{ak:List Value}
 (rel:HRel E.G I K ρ (a01 []) w)(hn:NRel ρ 0)(ha:VRels I w ρ args ak)(hb:Below w.heap.size w w1):Calls E.P g ak.toArray w1 λe w2=>e = .returned (.int k n)∧Below w1.heap.size w1 w2:=by
 have bM:∀c,I c→w1.heap[c]?=w.heap[c]?:=λc hc=>hb.block c (rel.imm c hc);have pe:HRel E.G I (λc=>¬I c∧c<w1.heap.size) ρ (a01 []) w1:=by
  refine⟨?_,?_,?_,λc hc=>Nat.lt_of_lt_of_le (rel.imm c hc) hb.size,λc hc=>hc.2,λc hc h=>h.1 hc,λg cs hg=>?_⟩
  ·intro b o ho;simp[a01]at ho
  ·intro b b' m m' ho;simp[a01]at ho
  ·intro b m hm;rw[hn b (f0h _)]at hm;cases hm
  ·obtain⟨h1,h2⟩:=rel.glob g cs hg;exact⟨h1,VAt.mono (λ_ h=>h) bM cs (λ_ _ h=>h) (bM g h1) h2⟩
 have h:=hf I _ ρ w1 ak pe hn (VRels.mono (λ_ h=>h) bM _ (λ_ _ h=>h) ha);rw[b0b hg]at h;refine Calls.mono h ?_
 rintro e w2 ⟨c,I',ρ',rfl,aB,hv⟩
 simp only[VRel]at hv;subst hv;refine⟨rfl,⟨aB.ext.os,aB.ext.tape,aB.ext.output,aB.ext.size,λk hk=>aB.ext.keep k ?_⟩⟩;by_cases hi:I k
 ·exact .inl hi
 ·exact .inr ⟨hi,hk⟩
theorem c4w{I:Nat→Prop}{w:World}{ρ:PMap}{x y:Int}{ak:List Value}(h:VRels I w ρ [.agg [.islice [[.int .u8 x],[.int .u8 y]] (some 2),.islice [] (some 0)]] ak)(hI:∀c,I c→c<w.heap.size) :
 ∃ab ao a2,ak=[.agg #[.slice (some ⟨ab,ao,none⟩) 2 2,.slice (some a2) 0 0]]∧ab<w.heap.size∧w.cell? ⟨ab,ao,none⟩=some (.int .u8 x)∧w.cell? ⟨ab,ao+1,none⟩=some (.int .u8 y):=by
 simp only[VRels,VRel]at h;obtain⟨c,_,rfl,⟨cs,rfl,v1,_,dY,⟨a,c1,k,rfl,_,dZ,hr⟩,v2,_,rfl,⟨a2,c2,k2,rfl,_,eP,_⟩,rfl⟩,rfl⟩:=h;have dZ:=dZ 2 rfl;have eP:=eP 0 rfl;subst dZ eP;rcases hr with hr|⟨hs,hi,az⟩
 ·cases hr
 simp only[VRows,VAt,VRel,e9m,f0g]at az;obtain⟨rfl,⟨⟨q1,h1,rfl⟩,_⟩,_,⟨⟨q2,h2,rfl⟩,_⟩,_⟩:=az;obtain⟨ab,ao,sp⟩:=a;simp only at hs hi h1 h2;subst hs;refine⟨ab,ao,a2,?_,hI _ hi,h1,h2⟩
 congr 2
 apply f6r;rw[dY];rfl
def t0:Fact:=⟨30,[.agg [.islice [[.int .u8 0],[.int .u8 1]] (some 2),.islice [] (some 0)]],.str [48,49,124]⟩
def t1:Fact:=⟨30,[.agg [.islice [[.int .u8 1],[.int .u8 2]] (some 2),.islice [] (some 0)]],.str [49,88,124]⟩
theorem kc0:a0m L.env ⟨21,[.agg [.islice [[.int .u8 0],[.int .u8 1]] (some 2),.islice [] (some 0)]],.int .i64 0⟩:=a16 ok dr b48 60 (by kernel_rfl)
theorem kc1:a0m L.env ⟨21,[.agg [.islice [[.int .u8 1],[.int .u8 2]] (some 2),.islice [] (some 0)]],.int .i64 0⟩:=a16 ok dr b48 60 (by kernel_rfl)
theorem kt0:a0m L.env t0:=by refine b6s (by decide) ?_;intro I K ρ w ak rel hn ha;obtain⟨ab,ao,a2,rfl,ag,h1,h2⟩:=c4w ha rel.imm;exact Tryz.text01 ab ao a2 w h1 h2 ag (λw1 hb=>b71 (by decide) kc0 rel hn ha hb)
theorem kt1:a0m L.env t1:=by refine b6s (by decide) ?_;intro I K ρ w ak rel hn ha;obtain⟨ab,ao,a2,rfl,ag,h1,h2⟩:=c4w ha rel.imm;exact Tryz.text1X ab ao a2 w h1 h2 ag (λw1 hb=>b71 (by decide) kc1 rel hn ha hb)
end Go.QInst
/- The closed run of the chapter's examples, by the kernel (printed by facts.py). -/
namespace Go.QInst
open Go.Proofs Go.Ax
set_option maxRecDepth 1000000
def w2_:List AV:=[.islice [[.int .u8 0],[.int .u8 2]] (some 2),.islice [] (some 0)]
def x0:Fact:=⟨73,[.str [48,88,124]],.tuple [.agg w2_,.int .i64 0]⟩
def w1_:List AV:=[.islice [[.int .u8 2],[.int .u8 1]] (some 2),.islice [] (some 0)]
def x1:Fact:=⟨73,[.str [88,49,124]],.tuple [.agg w1_,.int .i64 0]⟩
def w3_:List AV:=[.islice [[.int .u8 1],[.int .u8 2]] (some 2),.islice [] (some 0)]
def x2:Fact:=⟨73,[.str [49,88,124]],.tuple [.agg w3_,.int .i64 0]⟩
def w0_:List AV:=[.islice [[.int .u8 0],[.int .u8 1]] (some 2),.islice [] (some 0)]
def x3:Fact:=⟨73,[.str [48,49,124]],.tuple [.agg w0_,.int .i64 0]⟩
def x4:Fact:=⟨21,[.agg w2_],.int .i64 0⟩
def x5:Fact:=⟨21,[.agg w1_],.int .i64 0⟩
def x6:Fact:=⟨21,[.agg w3_],.int .i64 0⟩
def x7:Fact:=⟨21,[.agg w0_],.int .i64 0⟩
def x8:Fact:=⟨86,[.agg w2_],.islice [[.int .u8 0],[.int .u8 2]] none⟩
def x9:Fact:=⟨81,[.agg w1_,.agg w2_],.int .i64 0⟩
def x10:Fact:=⟨86,[.agg w1_],.islice [[.int .u8 2],[.int .u8 1]] none⟩
def x11:Fact:=⟨81,[.agg w2_,.agg w1_],.int .i64 0⟩
def x12:Fact:=⟨40,[.agg w2_,.agg w1_],.tuple [.agg w0_,.int .i64 0]⟩
def x13:Fact:=⟨86,[.agg w0_],.islice [[.int .u8 0],[.int .u8 1]] none⟩
def x14:Fact:=⟨81,[.agg w3_,.agg w0_],.int .i64 1⟩
def x15:Fact:=⟨81,[.agg w0_,.agg w0_],.int .i64 0⟩
def x16:Fact:=⟨40,[.agg w0_,.agg w0_],.tuple [.agg w0_,.int .i64 0]⟩
def x17:Fact:=⟨61,[.int .u64 11,.int .u64 15],.bool true⟩
def x18:Fact:=⟨61,[.int .u64 13,.int .u64 11],.bool false⟩
def x19:Fact:=⟨61,[.int .u64 14,.int .u64 11],.bool false⟩
def x20:Fact:=⟨61,[.int .u64 15,.int .u64 11],.bool false⟩
def x21:Fact:=⟨6,[],.bool true⟩
def M0:List Fact:=t0::t1::[]
theorem h0:∀x∈M0,a0m L.env x:=(a0y kt0 (a0y kt1 b48))
theorem k0:a0m L.env x0:=a16 ok dr h0 60 (by kernel_rfl)
def M1:List Fact:=x0::M0
theorem h1:∀x∈M1,a0m L.env x:=a0y k0 h0
theorem k1:a0m L.env x1:=a16 ok dr h1 60 (by kernel_rfl)
def M2:List Fact:=x1::M1
theorem h2:∀x∈M2,a0m L.env x:=a0y k1 h1
theorem k2:a0m L.env x2:=a16 ok dr h2 60 (by kernel_rfl)
def M3:List Fact:=x2::M2
theorem h3:∀x∈M3,a0m L.env x:=a0y k2 h2
theorem k3:a0m L.env x3:=a16 ok dr h3 60 (by kernel_rfl)
def M4:List Fact:=x3::M3
theorem h4:∀x∈M4,a0m L.env x:=a0y k3 h3
theorem k4:a0m L.env x4:=a16 ok dr h4 60 (by kernel_rfl)
def M5:List Fact:=x4::M4
theorem h5:∀x∈M5,a0m L.env x:=a0y k4 h4
theorem k5:a0m L.env x5:=a16 ok dr h5 60 (by kernel_rfl)
def M6:List Fact:=x5::M5
theorem h6:∀x∈M6,a0m L.env x:=a0y k5 h5
theorem k6:a0m L.env x6:=a16 ok dr h6 60 (by kernel_rfl)
def M7:List Fact:=x6::M6
theorem h7:∀x∈M7,a0m L.env x:=a0y k6 h6
theorem k7:a0m L.env x7:=a16 ok dr h7 60 (by kernel_rfl)
def M8:List Fact:=x7::M7
theorem h8:∀x∈M8,a0m L.env x:=a0y k7 h7
theorem k8:a0m L.env x8:=a16 ok dr h8 60 (by kernel_rfl)
def M9:List Fact:=x8::M8
theorem h9:∀x∈M9,a0m L.env x:=a0y k8 h8
theorem k9:a0m L.env x9:=a16 ok dr h9 60 (by kernel_rfl)
def M10:List Fact:=x9::M9
theorem h10:∀x∈M10,a0m L.env x:=a0y k9 h9
theorem k10:a0m L.env x10:=a16 ok dr h10 60 (by kernel_rfl)
def M11:List Fact:=x10::M10
theorem h11:∀x∈M11,a0m L.env x:=a0y k10 h10
theorem k11:a0m L.env x11:=a16 ok dr h11 60 (by kernel_rfl)
def M12:List Fact:=x11::M11
theorem h12:∀x∈M12,a0m L.env x:=a0y k11 h11
theorem k12:a0m L.env x12:=a16 ok dr h12 60 (by kernel_rfl)
def M13:List Fact:=x12::M12
theorem h13:∀x∈M13,a0m L.env x:=a0y k12 h12
theorem k13:a0m L.env x13:=a16 ok dr h13 60 (by kernel_rfl)
def M14:List Fact:=x13::M13
theorem h14:∀x∈M14,a0m L.env x:=a0y k13 h13
theorem k14:a0m L.env x14:=a16 ok dr h14 60 (by kernel_rfl)
def M15:List Fact:=x14::M14
theorem h15:∀x∈M15,a0m L.env x:=a0y k14 h14
theorem k15:a0m L.env x15:=a16 ok dr h15 60 (by kernel_rfl)
def M16:List Fact:=x15::M15
theorem h16:∀x∈M16,a0m L.env x:=a0y k15 h15
theorem k16:a0m L.env x16:=a16 ok dr h16 60 (by kernel_rfl)
def M17:List Fact:=x16::M16
theorem h17:∀x∈M17,a0m L.env x:=a0y k16 h16
theorem k17:a0m L.env x17:=a16 ok dr h17 60 (by kernel_rfl)
def M18:List Fact:=x17::M17
theorem h18:∀x∈M18,a0m L.env x:=a0y k17 h17
theorem k18:a0m L.env x18:=a16 ok dr h18 60 (by kernel_rfl)
def M19:List Fact:=x18::M18
theorem h19:∀x∈M19,a0m L.env x:=a0y k18 h18
theorem k19:a0m L.env x19:=a16 ok dr h19 60 (by kernel_rfl)
def M20:List Fact:=x19::M19
theorem h20:∀x∈M20,a0m L.env x:=a0y k19 h19
theorem k20:a0m L.env x20:=a16 ok dr h20 60 (by kernel_rfl)
def M21:List Fact:=x20::M20
theorem h21:∀x∈M21,a0m L.env x:=a0y k20 h20
theorem k21:a0m L.env x21:=a16 ok dr h21 60 (by kernel_rfl)
def M22:List Fact:=x21::M21
theorem h22:∀x∈M22,a0m L.env x:=a0y k21 h21
theorem kn0:a0m L.env ⟨174,[.str [110,48,48]],.bool true⟩:=a16 ok dr h22 60 (by kernel_rfl)
theorem kn1:a0m L.env ⟨174,[.str [110,48,49]],.bool true⟩:=a16 ok dr h22 60 (by kernel_rfl)
theorem kn2:a0m L.env ⟨174,[.str [110,48,50]],.bool true⟩:=a16 ok dr h22 60 (by kernel_rfl)
theorem kn3:a0m L.env ⟨174,[.str [110,48,51]],.bool true⟩:=a16 ok dr h22 60 (by kernel_rfl)
theorem kn4:a0m L.env ⟨174,[.str [110,48,52]],.bool true⟩:=a16 ok dr h22 60 (by kernel_rfl)
theorem kn5:a0m L.env ⟨174,[.str [110,48,53]],.bool true⟩:=a16 ok dr h22 60 (by kernel_rfl)
theorem kn6:a0m L.env ⟨174,[.str [110,48,54]],.bool true⟩:=a16 ok dr h22 60 (by kernel_rfl)
theorem kn7:a0m L.env ⟨174,[.str [110,48,55]],.bool true⟩:=a16 ok dr h22 60 (by kernel_rfl)
theorem kn8:a0m L.env ⟨174,[.str [110,48,56]],.bool true⟩:=a16 ok dr h22 60 (by kernel_rfl)
theorem kn9:a0m L.env ⟨174,[.str [110,48,57]],.bool true⟩:=a16 ok dr h22 60 (by kernel_rfl)
theorem f5l:a0m L.env ⟨174,[.str [110,49,48]],.bool true⟩:=a16 ok dr h22 60 (by kernel_rfl)
theorem f5k:a0m L.env ⟨174,[.str [110,49,49]],.bool true⟩:=a16 ok dr h22 60 (by kernel_rfl)
theorem f5j:a0m L.env ⟨174,[.str [110,49,50]],.bool true⟩:=a16 ok dr h22 60 (by kernel_rfl)
theorem f5i:a0m L.env ⟨174,[.str [110,49,51]],.bool true⟩:=a16 ok dr h22 60 (by kernel_rfl)
theorem livesFacts:∀y∈Mf,a0m L.env y:=by
 intro y hy;simp only[Mf,f2s,List.not_mem_nil,or_false]at hy;rcases hy with rfl|rfl|rfl|rfl|rfl|rfl|rfl|rfl|rfl|rfl|rfl|rfl|rfl|rfl|rfl
 ·exact k21
 ·exact kn0
 ·exact kn1
 ·exact kn2
 ·exact kn3
 ·exact kn4
 ·exact kn5
 ·exact kn6
 ·exact kn7
 ·exact kn8
 ·exact kn9
 ·exact f5l
 ·exact f5k
 ·exact f5j
 ·exact f5i
end Go.QInst
