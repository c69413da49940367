/- The shelf's contracts at this dump, in plain words (printed by the kit's lay-plain.mjs). -/
import Derived.Shelf.SlIterI.Nil
import Derived.Shelf.SortM.Plain
import Derived.Shelf.SortM.SortNone
import Derived.Ground.GgzProg
import Derived.Ground.SlgmProg
import Derived.Test.YtlldffjabagdbaaGreatDoorProg
import Derived.Test.YtlldffjabagdbaaGreatDoorAxPrim
import Derived.WalkKit
import Derived.OwnWalkIn
import Derived.Test.YtlldffjabagdbaaGreatDoorTGa
set_option linter.unusedSimpArgs false
set_option linter.unusedVariables false
namespace Go.Proofs
open Go.Shelf
def Tryz.keysA_ren:Go.Shelf.Ren:=⟨λ|7=>71|10=>109|n=>n,λ|23=>97|26=>3|3=>4|28=>140|0=>0|27=>139|33=>175|4=>4|n=>n,λ|n=>n⟩
theorem Tryz.keysA:Go.Proofs.SlLaysZI.n7 Tryz.prog Tryz.keysA_ren:={
 mixed:=by kernel_rfl
 f7:=⟨Tryz.f71.name,by decide,Tryz.func71.trans (congrArg some (by kernel_rfl))⟩
 f10:=⟨Tryz.f109.name,by decide,Tryz.func109.trans (congrArg some (by kernel_rfl))⟩
 t0:=Tryz.underlying0
 a0:=Tryz.isAgg0
 z0:=Tryz.sizeOf0
 v0:=Tryz.zeroValue0
 t4:=Tryz.underlying4
 a4:=Tryz.isAgg4
 z4:=Tryz.sizeOf4
 v4:=Tryz.zeroValue4
 t23:=Tryz.underlying97
 a23:=Tryz.isAgg97
 z23:=Tryz.sizeOf97
 v23:=Tryz.zeroValue97
 t26:=Tryz.underlying3
 a26:=Tryz.isAgg3
 z26:=Tryz.sizeOf3
 v26:=Tryz.zeroValue3
 t27:=Tryz.underlying139
 a27:=Tryz.isAgg139
 z27:=Tryz.sizeOf139
 v27:=Tryz.zeroValue139
 t28:=Tryz.underlying140
 a28:=Tryz.isAgg140
 z28:=Tryz.sizeOf140
 v28:=Tryz.zeroValue140
 t33:=Tryz.underlying175
 a33:=Tryz.isAgg175
 z33:=Tryz.sizeOf175
 v33:=Tryz.zeroValue175 }
def Tryz.sortedA_ren:Go.Shelf.Ren:=⟨λ|6=>70|8=>107|9=>108|11=>142|13=>144|12=>143|23=>168|24=>169|14=>159|15=>160|16=>161|17=>162|18=>163|19=>164|20=>165|21=>166|22=>167|25=>174|26=>175|27=>176|28=>177|29=>178|30=>96|31=>181|n=>n,λ|26=>3|28=>140|24=>32|0=>0|3=>3|37=>69|48=>230|50=>28|4=>4|40=>223|39=>222|45=>227|5=>5|9=>9|51=>235|55=>239|57=>243|58=>129|33=>175|n=>n,λ|n=>n⟩
theorem Tryz.sortedA:Go.Proofs.SlLaysZI.n6 Tryz.prog Tryz.sortedA_ren:={
 mixed:=by kernel_rfl
 f6:=⟨Tryz.f70.name,by decide,Tryz.func70.trans (congrArg some (by kernel_rfl))⟩
 f8:=⟨Tryz.f107.name,by decide,Tryz.func107.trans (congrArg some (by kernel_rfl))⟩
 f11:=⟨Tryz.f142.name,by decide,Tryz.func142.trans (congrArg some (by kernel_rfl))⟩
 t0:=Tryz.underlying0
 a0:=Tryz.isAgg0
 z0:=Tryz.sizeOf0
 v0:=Tryz.zeroValue0
 t24:=Tryz.underlying32
 a24:=Tryz.isAgg32
 z24:=Tryz.sizeOf32
 v24:=Tryz.zeroValue32
 t26:=Tryz.underlying3
 a26:=Tryz.isAgg3
 z26:=Tryz.sizeOf3
 v26:=Tryz.zeroValue3
 t28:=Tryz.underlying140
 a28:=Tryz.isAgg140
 z28:=Tryz.sizeOf140
 v28:=Tryz.zeroValue140
 i26:=by kernel_rfl }
def Tryz.sortA_ren:Go.Shelf.Ren:=⟨λ|5=>108|8=>144|7=>143|19=>168|20=>169|10=>159|11=>160|12=>161|13=>162|14=>163|15=>164|16=>165|17=>166|18=>167|30=>174|31=>175|32=>176|33=>177|34=>178|35=>96|40=>181|n=>n,λ|23=>32|25=>3|3=>3|32=>69|22=>32|0=>0|44=>230|46=>28|4=>4|36=>223|35=>222|41=>227|5=>5|9=>9|53=>235|57=>239|63=>243|64=>129|n=>n,λ|n=>n⟩
theorem Tryz.sortA:Go.Proofs.SlLaysM.n5 Tryz.prog Tryz.sortA_ren:={
 mixed:=by kernel_rfl
 f5:=⟨Tryz.f108.name,by decide,Tryz.func108.trans (congrArg some (by kernel_rfl))⟩
 f7:=⟨Tryz.f143.name,by decide,Tryz.func143.trans (congrArg some (by kernel_rfl))⟩
 f8:=Tryz.func144.trans (congrArg some (by kernel_rfl))
 f10:=⟨Tryz.f159.name,by decide,Tryz.func159.trans (congrArg some (by kernel_rfl))⟩
 f11:=⟨Tryz.f160.name,by decide,Tryz.func160.trans (congrArg some (by kernel_rfl))⟩
 f12:=⟨Tryz.f161.name,by decide,Tryz.func161.trans (congrArg some (by kernel_rfl))⟩
 f13:=⟨Tryz.f162.name,by decide,Tryz.func162.trans (congrArg some (by kernel_rfl))⟩
 f14:=⟨Tryz.f163.name,by decide,Tryz.func163.trans (congrArg some (by kernel_rfl))⟩
 f15:=⟨Tryz.f164.name,by decide,Tryz.func164.trans (congrArg some (by kernel_rfl))⟩
 f16:=⟨Tryz.f165.name,by decide,Tryz.func165.trans (congrArg some (by kernel_rfl))⟩
 f17:=⟨Tryz.f166.name,by decide,Tryz.func166.trans (congrArg some (by kernel_rfl))⟩
 f18:=⟨Tryz.f167.name,by decide,Tryz.func167.trans (congrArg some (by kernel_rfl))⟩
 f19:=Tryz.func168.trans (congrArg some (by kernel_rfl))
 f20:=Tryz.func169.trans (congrArg some (by kernel_rfl))
 f30:=⟨Tryz.f174.name,by decide,Tryz.func174.trans (congrArg some (by kernel_rfl))⟩
 f31:=Tryz.func175.trans (congrArg some (by kernel_rfl))
 f32:=Tryz.func176.trans (congrArg some (by kernel_rfl))
 f33:=⟨Tryz.f177.name,by decide,Tryz.func177.trans (congrArg some (by kernel_rfl))⟩
 f34:=⟨Tryz.f178.name,by decide,Tryz.func178.trans (congrArg some (by kernel_rfl))⟩
 f35:=⟨Tryz.f96.name,by decide,Tryz.func96.trans (congrArg some (by kernel_rfl))⟩
 f40:=⟨Tryz.f181.name,by decide,Tryz.func181.trans (congrArg some (by kernel_rfl))⟩
 t0:=Tryz.underlying0
 a0:=Tryz.isAgg0
 z0:=Tryz.sizeOf0
 v0:=Tryz.zeroValue0
 t3:=Tryz.underlying3
 a3:=Tryz.isAgg3
 z3:=Tryz.sizeOf3
 v3:=Tryz.zeroValue3
 t4:=Tryz.underlying4
 a4:=Tryz.isAgg4
 z4:=Tryz.sizeOf4
 v4:=Tryz.zeroValue4
 t5:=Tryz.underlying5
 a5:=Tryz.isAgg5
 z5:=Tryz.sizeOf5
 v5:=Tryz.zeroValue5
 t9:=Tryz.underlying9
 a9:=Tryz.isAgg9
 z9:=Tryz.sizeOf9
 v9:=Tryz.zeroValue9
 t22:=Tryz.underlying32
 a22:=Tryz.isAgg32
 z22:=Tryz.sizeOf32
 v22:=Tryz.zeroValue32
 t23:=Tryz.underlying32
 a23:=Tryz.isAgg32
 z23:=Tryz.sizeOf32
 v23:=Tryz.zeroValue32
 t25:=Tryz.underlying3
 a25:=Tryz.isAgg3
 z25:=Tryz.sizeOf3
 v25:=Tryz.zeroValue3
 t32:=Tryz.underlying69
 a32:=Tryz.isAgg69
 z32:=Tryz.sizeOf69
 v32:=Tryz.zeroValue69
 t35:=Tryz.underlying222
 a35:=Tryz.isAgg222
 z35:=Tryz.sizeOf222
 v35:=Tryz.zeroValue222
 t36:=Tryz.underlying223
 a36:=Tryz.isAgg223
 z36:=Tryz.sizeOf223
 v36:=Tryz.zeroValue223
 t41:=Tryz.underlying227
 a41:=Tryz.isAgg227
 z41:=Tryz.sizeOf227
 v41:=Tryz.zeroValue227
 t44:=Tryz.underlying230
 a44:=Tryz.isAgg230
 z44:=Tryz.sizeOf230
 v44:=Tryz.zeroValue230
 t46:=Tryz.underlying28
 a46:=Tryz.isAgg28
 z46:=Tryz.sizeOf28
 v46:=Tryz.zeroValue28
 t53:=Tryz.underlying235
 a53:=Tryz.isAgg235
 z53:=Tryz.sizeOf235
 v53:=Tryz.zeroValue235
 t57:=Tryz.underlying239
 a57:=Tryz.isAgg239
 z57:=Tryz.sizeOf239
 v57:=Tryz.zeroValue239
 t63:=Tryz.underlying243
 a63:=Tryz.isAgg243
 z63:=Tryz.sizeOf243
 v63:=Tryz.zeroValue243
 t64:=Tryz.underlying129
 a64:=Tryz.isAgg129
 z64:=Tryz.sizeOf129
 v64:=Tryz.zeroValue129 }
set_option maxHeartbeats 200000000
open Go.RowKit Go.Maps Go.Sort Go.Shelf
theorem Tryz.sortsA(m:Nat):AnyZI.SortsIn Tryz.prog Tryz.sortedA_ren Fence.wide m:=
 ⟨λblk off cap ss W hH ej bU=>callsIn_wide.2 (AnyM.slices_Sort_int Tryz.sortA blk off cap ss W hH ej bU),
  λp cap W=>callsIn_wide.2 (AnyM.slices_Sort_int_none Tryz.sortA p cap W)⟩
set_option maxRecDepth 100000 in
theorem Tryz.clipA(p:Option Addr)(n cap:Nat)(hn:n≤cap)(hc:cap≤maxLen)(w:World)(hp:p=none→n=0∧cap=0):Calls Tryz.prog 69 #[.slice p n cap] w λe w'=>e = .returned (.slice p n n)∧w'=w:=by
 go_enter Tryz.func69,Tryz.ntmps69
 go_wp2
 go_ret
 exact⟨rfl,rfl⟩
set_option maxRecDepth 100000 in
theorem Tryz.sortsSet:Go.Ax.SortsSet Tryz.prog 31 3 3:=by
 intro b nn D0 R w kC iZ mL;refine(callsIn_wide (n:=6)).1 ?_;have dZ:=kC.lt;have qC:SeqGives Fence.wide 2 Tryz.prog 109 #[.pointer (some ⟨w.heap.size,0,none⟩)] encZ (λss=>ss.Perm (intKeys D0)) (Maps.size D0) (w.alloc (.cells #[.map (some b)] 97)):=AnyZI.keys_gives (ρ:=Tryz.keysA_ren) { Tryz.keysA with } Fence.wide _ trivial rfl (by omega) w.heap.size b nn D0 _ (by simp) (by simp) (by obtain⟨es,bv,hb,Ft,hs,hD⟩:=kC;exact⟨es,bv,(Below.heap_alloc _ _ b dZ).trans hb,Ft,hs,hD⟩);have cK:∀mb W,CallsIn Fence.wide 5 Tryz.prog 71 #[.map mb] W λe w'=>e = .returned (.func (.func 109) #[] #[.pointer (some ⟨W.heap.size,0,none⟩)])∧w'=W.alloc (.cells #[.map mb] 97):=λmb W=>AnyZI.keys_in Tryz.keysA Fence.wide 5 trivial rfl mb W;have cS:=AnyZI.sorted_in Tryz.sortedA Fence.wide 5 trivial trivial trivial trivial rfl (by omega) (Tryz.sortsA _) (enters_of Tryz.func108 (by kernel_rfl) rfl) 109 #[.pointer (some ⟨w.heap.size,0,none⟩)] trivial (enters_of Tryz.func109 (by kernel_rfl) rfl) _ _ iZ mL _ qC;change CallsIn _ _ Tryz.prog 70 _ _ _ at cS;have cC:∀p n cap W,n≤cap→cap≤maxLen→(p=none→n=0∧cap=0)→CallsIn Fence.wide 5 Tryz.prog 69 #[.slice p n cap] W λe w'=>e = .returned (.slice p n n)∧w'=W:=λp n cap W h1 h2 h3=>callsIn_wide.2 (Tryz.clipA p n cap h1 h2 W h3);have wy:Fence.wide.fn 71:=trivial;have wv:Fence.wide.fn 70:=trivial;have wz:Fence.wide.fn 69:=trivial;refine callsIn_of_wp Tryz.func31 rfl trivial ?_ rfl;simp only[Tryz.ntmps31,List.size_toArray,List.length_cons,List.length_nil,Nat.reduceAdd,Nat.reduceSub,Array.replicate_succ,Array.replicate_zero,List.push_toArray,List.append_toArray,List.nil_append,List.cons_append]
 gi_wp2_with (first
  |(gi_at_call 71;refine(cK _ _).mono ?_;rintro e w' ⟨rfl,rfl⟩)
  |(
   gi_at_call 70
   refine cS.mono ?_
   rintro e w' ⟨v,ss,rfl,hS,dC,kF,hb⟩
   obtain⟨pp,qn,qc,rfl,nW,kg,pw⟩:∃p n c,v = .slice p n c∧n≤c∧c≤maxLen∧(p=none→n=0∧c=0):=by
    rcases dC.2 with ⟨h1,h2⟩|⟨g,cap,cur,h1,h2,h3,h4,h5,h6,h7⟩
    ·exact⟨_,_,_,h1,Nat.le_refl _,Nat.zero_le _,λ_=>⟨rfl,rfl⟩⟩
    ·exact⟨_,_,_,h1,h4,h5,λh=>by cases h⟩)
  |(gi_at_call 69;refine(cC _ _ _ _ nW kg pw).mono ?_;rintro e w' ⟨rfl,rfl⟩))
 go_ret
 exact⟨_,_,ss,rfl,hS,ownsRow_base_a dC (by simp),kF,λa n c h=>by cases h;rfl,((Below.refl _ w).alloc (Nat.le_refl _) _).trans (hb.mono (by simp))⟩
end Go.Proofs
/- The sorted keys of a set: what the primitive answers is what the function gives. -/
namespace Go.TInst
open Go.Proofs Go.Ax
theorem dr:DrOk L.env:=laidOk.drawnP (c0n (g:=31) (k:=3) (t:=3) rfl (by decide) (by kernel_rfl) Tryz.sortsSet)
end Go.TInst
