/- Part of a proof. No condition. -/
import Derived.Test.YtbmkmaobejlkgaaDoorKMrg2
set_option linter.unusedSimpArgs false
set_option linter.unusedVariables false
namespace Go.KInst
open Go.Proofs Go.Ax Go.Pc
set_option maxRecDepth 100000
theorem flatU (l:List Nat):FlatR (l.map u8R):=FlatR.map fun _=>rfl
theorem refsU (l:List Nat):(l.map u8R).flatMap refsL = []:=refs_flatR (flatU l)
theorem renU (π:Nat → Option Nat) (l:List Nat):(l.map u8R).map (fun r=>r.map (ren π)) = l.map u8R:=renR_flat π (flatU l)
theorem frzU {m:Nat} {d:AV → Option AV} (l:List Nat):frzR m d (l.map u8R) = some (l.map u8R):=frzR_flat m d (flatU l)
theorem lenU (l:List Nat):((l.map u8R).all fun r=>decide (r.length = 1)) = true:=by
 rw [List.all_eq_true];intro r hr;obtain ⟨x,_,rfl⟩:=List.mem_map.1 hr;rfl
theorem stoU (l:List Nat):((l.map u8R).all fun r=>r.all AV.storable) = true:=by
 rw [List.all_eq_true];intro r hr;obtain ⟨x,_,rfl⟩:=List.mem_map.1 hr;rfl
theorem grow_0:sem L.env Mf 88 [.nilslice,.int .i64 0] [] = some (.nilslice,[]):=by
 have w0:IntKind.i64.wrap ((0:Int) - 0) = 0:=by decide
 (refine sv Tryd.f88 ?_;simp only [Tryd.f88,gS])
 (repeat first|simp only [ww]|(apply xa;simp +decide only [go_sem,w0];rfl;kernel_rfl))
 (apply fqb;simp +decide only [go_sem]<;>rfl)
theorem zer_n (k n:Nat) (h0:0 < n) (hn:n ≤ 100000):aappendZ L.env k 43 3 .nilslice (.int .i64 n) = some (.slice k 0 n none,.new (.row 1 (List.replicate n [.int .u8 0]))):=by
 obtain ⟨m,rfl⟩:∃ m,n = m + 1:=⟨n - 1,by omega⟩
 have hu:L.env.und 43 = some (.slice 84):=by kernel_rfl
 have hxd:(L.env.und 3).any isIntDesc = true:=by kernel_rfl
 obtain ⟨dx,hx,hd⟩:∃ dx,L.env.und 3 = some dx ∧ isIntDesc dx = true:=by
  cases h:L.env.und 3 with
  | none=>rw [h] at hxd;cases hxd
  | some dx=>rw [h] at hxd;exact ⟨dx,rfl,hxd⟩
 have hz:L.env.zero 84 = some [.int .u8 0]:=by kernel_rfl
 have hs:L.env.sz 84 = 1:=by kernel_rfl
 have hr:roomOk L.env 84 (m + 1) = true:=room_ok (by omega) (by decide +kernel)
 unfold aappendZ
 simp only [hu,hx,hd,hz,hs,Bool.true_and]
 have h1:decide (0 ≤ ((m + 1:Nat):Int)) = true:=decide_eq_true (by omega)
 have h2:(((m + 1:Nat):Int)).toNat = m + 1:=by omega
 have h3:Nat.blt 0 1 = true:=rfl
 simp only [h1,h2,h3,hr,cond_true]
theorem grow_n (n:Nat) (h0:0 < n) (hn:n ≤ 100000):sem L.env Mf 88 [.nilslice,.int .i64 n] [] = some (.slice 0 0 0 none,[some (.row 1 (List.replicate n [.int .u8 0]))]):=by
 have c1:¬ (n:Int) < 0:=by omega
 have c2:(0:Int) < n:=by omega
 have w0:IntKind.i64.wrap ((0:Int) - 0) = 0:=by decide
 have hw:IntKind.i64.wrap ((n:Int) - 0) = n:=by rw [w64 (by omega) (by omega)];omega
 have hz:=fun k=>zer_n k n h0 hn
 have ha:apT L.env 43 3 = none:=by kernel_rfl
 have hs:∀ hp,aslice L.env hp 43 .nilslice none (some (.int .i64 0)) none = some .nilslice:=fun hp=>by kernel_rfl
 (refine sv Tryd.f88 ?_;simp only [Tryd.f88,gS])
 (repeat first|simp only [ww]|(apply xa;simp +decide only [go_sem,c1,c2,w0,hw,hz,ha,hs];rfl;kernel_rfl))
 (apply fqb;simp +decide only [go_sem]<;>rfl)
def slU (l:List Nat):AV:=slF none (l.map u8R)
theorem slU_ne {l:List Nat} (h:l ≠ []):slU l = .islice (l.map u8R) none:=by
 cases l with
 | nil=>exact absurd rfl h
 | cons a r=>rfl
theorem slU_refs (l:List Nat):refs (slU l) = []:=by cases l<;>rfl
theorem grow_call0 (H:Heap):callV L.env false (sem L.env Mf) (.func (.func 88) [] []) [.nilslice,.int .i64 0] H = some (.nilslice,H,[]):=
 callV_flat (by kernel_rfl) (by kernel_rfl) rfl rfl grow_0 rfl
theorem grow_call (H:Heap) (n:Nat) (h0:0 < n) (hn:n ≤ 100000):callV L.env false (sem L.env Mf) (.func (.func 88) [] []) [.nilslice,.int .i64 n] H = some (.slice H.length 0 0 none,H ++ [some (.row 1 (List.replicate n [.int .u8 0]))],[]):=by
 have hc:=callLoc_eq (sem L.env Mf 88) [.nilslice,.int .i64 n] H (σ:=[]) rfl rfl rfl (args':=[.nilslice,.int .i64 n]) rfl (H0:=[]) rfl (grow_n n h0 hn)
 have hf:FlatR (List.replicate n [AV.int .u8 0]):=fun r hr=>by rw [(List.mem_replicate.1 hr).2];rfl
 refine callV_eqn (by kernel_rfl) (by kernel_rfl) rfl (hc.trans ?_)
 have hr:=fun π=>renR_flat π hf
 simp only [putBack_nil,ren,backOf,List.length_nil,List.drop_zero,List.map_cons,List.map_nil,Option.map_some,renObj,hr]
 simp [Nat.blt]
 rfl
theorem concat_ok (ca cb:Option (Option Nat)) (a b:List Nat) (hl:a.length + b.length ≤ 100000):sem L.env Mf 71 [.slice 0 0 2 (some 2)] [some (.row 1 [[sl ca (a.map u8R)],[sl cb (b.map u8R)]])] = some (slU (a ++ b),[some (.row 1 [[sl ca (a.map u8R)],[sl cb (b.map u8R)]])]):=by
 suffices hs:∃ r:AV × Heap,(r = (slU (a ++ b),[some (.row 1 [[sl ca (a.map u8R)],[sl cb (b.map u8R)]])])) ∧ sem L.env Mf 71 [.slice 0 0 2 (some 2)] [some (.row 1 [[sl ca (a.map u8R)],[sl cb (b.map u8R)]])] = some r by
  obtain ⟨r,rfl,h3⟩:=hs
  exact h3
 have w1:IntKind.i64.wrap ((0:Int) + (a.length:Int)) = (a.length:Int):=by rw [w64 (by omega) (by omega)];omega
 have w2:IntKind.i64.wrap ((a.length:Int) + (b.length:Int)) = ((a.length + b.length:Nat):Int):=by rw [w64 (by omega) (by omega)];omega
 have c1:¬ (a.length:Int) < 0:=by omega
 have c2:¬ ((a.length + b.length:Nat):Int) < 0:=by omega
 (refine svE Tryd.f71 ?_;simp only [Tryd.f71,gS])
 (repeat first|simp only [ww]|(apply xa;simp +decide only [go_sem];rfl;kernel_rfl))
 refine xp_lp kp71_0 (fun q F H1=>∃ (i x:Int),((i = 0 ∧ x = 0 ∧ q = 2) ∨ (i = 1 ∧ x = a.length ∧ q = 1) ∨ (i = 2 ∧ x = (a.length + b.length:Nat) ∧ q = 0)) ∧ F = [(0,.slice 0 0 2 (some 2)),(3,.int .i64 x),(9,.slice 0 0 2 (some 2)),(10,.int .i64 2),(11,.int .i64 i)] ∧ H1 = [some (.row 1 [[sl ca (a.map u8R)],[sl cb (b.map u8R)]])]) 2 ?_ ?_
 ·refine ⟨_,_,?_,0,0,.inl ⟨rfl,rfl,rfl⟩,rfl,rfl⟩
  (simp +decide only [go_sem,gcD_eq,gcIds_eq]<;>rfl)<;>rfl
 ·rintro q F H1 ⟨i,x,h,rfl,rfl⟩
  rcases h with ⟨rfl,rfl,rfl⟩|⟨rfl,rfl,rfl⟩|⟨rfl,rfl,rfl⟩
  ·(repeat first|simp only [ww]|(apply xa;simp +decide only [go_sem,w1,c1,List.length_map];rfl;kernel_rfl))
   refine lpJ_n 1 (by omega) ⟨_,_,?_,1,a.length,.inr (.inl ⟨rfl,rfl,rfl⟩),rfl,rfl⟩
   (simp +decide only [go_sem,gcD_eq,gcIds_eq]<;>rfl)<;>rfl
  ·(repeat first|simp only [ww]|(apply xa;simp +decide only [go_sem,w2,c2,List.length_map];rfl;kernel_rfl))
   refine lpJ_n 0 (by omega) ⟨_,_,?_,2,(a.length + b.length:Nat),.inr (.inr ⟨rfl,rfl,rfl⟩),rfl,rfl⟩
   (simp +decide only [go_sem,gcD_eq,gcIds_eq]<;>rfl)<;>rfl
  ·rcases Nat.eq_zero_or_pos (a.length + b.length) with hz|hz
   ·have ha:a = []:=List.eq_nil_of_length_eq_zero (by omega)
    have hb:b = []:=List.eq_nil_of_length_eq_zero (by omega)
    subst ha hb
    have hg:=fun H=>grow_call0 H
    simp only [List.length_nil,Nat.add_zero,Int.natCast_zero]
    (repeat first|simp only [ww]|(apply xa;simp +decide only [go_sem,hg];rfl;kernel_rfl))
    refine xp_lp kp71_2 (fun q F H1=>∃ (i:Int),((i = 0 ∧ q = 2) ∨ (i = 1 ∧ q = 1) ∨ (i = 2 ∧ q = 0)) ∧ F = [(6,.nilslice),(25,.slice 0 0 2 (some 2)),(26,.int .i64 2),(27,.int .i64 i)] ∧ H1 = [some (.row 1 [[sl ca (([]:List Nat).map u8R)],[sl cb (([]:List Nat).map u8R)]])]) 2 ?_ ?_
    ·refine ⟨_,_,?_,0,.inl ⟨rfl,rfl⟩,rfl,rfl⟩
     (simp +decide only [go_sem,gcD_eq,gcIds_eq]<;>rfl)<;>rfl
    ·rintro q F H1 ⟨i,h,rfl,rfl⟩
     rcases h with ⟨rfl,rfl⟩|⟨rfl,rfl⟩|⟨rfl,rfl⟩
     ·(repeat first|simp only [ww]|(apply xa;simp +decide only [go_sem,List.map_nil];rfl;kernel_rfl))
      refine lpJ_n 1 (by omega) ⟨_,_,?_,1,.inr (.inl ⟨rfl,rfl⟩),rfl,rfl⟩
      (simp +decide only [go_sem,gcD_eq,gcIds_eq,List.map_nil]<;>rfl)<;>rfl
     ·(repeat first|simp only [ww]|(apply xa;simp +decide only [go_sem,List.map_nil];rfl;kernel_rfl))
      refine lpJ_n 0 (by omega) ⟨_,_,?_,2,.inr (.inr ⟨rfl,rfl⟩),rfl,rfl⟩
      (simp +decide only [go_sem,gcD_eq,gcIds_eq,List.map_nil]<;>rfl)<;>rfl
     ·(repeat first|simp only [ww]|(apply xa;simp +decide only [go_sem];rfl;kernel_rfl))
      refine fqE_n (vs:=[.nilslice]) (r:=(_,_)) (by simp +decide only [go_sem]) ?_ rfl
      simp +decide only [go_sem,finish]<;>rfl
   ·have hg:=fun H=>grow_call H (a.length + b.length) hz hl
    have hne:a ++ b ≠ []:=by intro e;rw [List.append_eq_nil_iff] at e;rw [e.1,e.2] at hz;simp at hz
    generalize hR:List.replicate (a.length + b.length) [AV.int .u8 0] = R at hg
    have hRl:R.length = a.length + b.length:=by rw [← hR];simp
    have hRf:FlatR R:=fun r hr=>by rw [← hR] at hr;rw [(List.mem_replicate.1 hr).2];rfl
    have hr1:a.length ≤ 1000000000:=by omega
    have hr2:a.length + b.length ≤ 1000000000:=by omega
    have hn0:¬ 0 = a.length + b.length:=by omega
    (repeat first|simp only [ww]|(apply xa;simp +decide only [go_sem,hg];rfl;kernel_rfl))
    refine xp_lp kp71_2 (fun q F H1=>∃ (i:Int) (n:Nat) (Q:List (List AV)),((i = 0 ∧ q = 2 ∧ n = 0 ∧ Q = R) ∨ (i = 1 ∧ q = 1 ∧ n = a.length ∧ Q = a.map u8R) ∨ (i = 2 ∧ q = 0 ∧ n = a.length + b.length ∧ Q = a.map u8R ++ b.map u8R)) ∧ F = [(6,.slice 1 0 n none),(25,.slice 0 0 2 (some 2)),(26,.int .i64 2),(27,.int .i64 i)] ∧ H1 = [some (.row 1 [[sl ca (a.map u8R)],[sl cb (b.map u8R)]]),some (.row 1 Q)]) 2 ?_ ?_
    ·refine ⟨_,_,?_,0,0,R,.inl ⟨rfl,rfl,rfl,rfl⟩,rfl,rfl⟩
     (simp +decide only [go_sem,gcD_eq,gcIds_eq,refs_flatR hRf,renR_flat _ hRf]<;>rfl)<;>rfl
    ·rintro q F H1 ⟨i,n,Q,h,rfl,rfl⟩
     rcases h with ⟨rfl,rfl,rfl,rfl⟩|⟨rfl,rfl,rfl,rfl⟩|⟨rfl,rfl,rfl,rfl⟩
     ·(repeat first|simp only [ww]|(apply xa;simp +decide only [go_sem,lenU,stoU,hRl,hr1,hn0,Nat.zero_add,List.length_map,Nat.zero_le];rfl;kernel_rfl))
      refine lpJ_n 1 (by omega) ⟨_,_,?_,1,a.length,a.map u8R,.inr (.inl ⟨rfl,rfl,rfl,rfl⟩),rfl,rfl⟩
      (simp +decide only [go_sem,gcD_eq,gcIds_eq,refsU,renU]<;>rfl)<;>rfl
     ·(repeat first|simp only [ww]|(apply xa;simp +decide only [go_sem,lenU,stoU,hr2,List.length_map];rfl;kernel_rfl))
      refine lpJ_n 0 (by omega) ⟨_,_,?_,2,a.length + b.length,a.map u8R ++ b.map u8R,.inr (.inr ⟨rfl,rfl,rfl,rfl⟩),rfl,rfl⟩
      (simp +decide only [go_sem,gcD_eq,gcIds_eq,refsU,renU,List.flatMap_append,List.map_append]<;>rfl)<;>rfl
     ·(repeat first|simp only [ww]|(apply xa;simp +decide only [go_sem];rfl;kernel_rfl))
      refine fqE_n (vs:=[.slice 1 0 (a.length + b.length) none]) (r:=(_,_)) (by simp +decide only [go_sem]) ?_ rfl
      rw [slU_ne hne]
      have ht:List.take (a.length + b.length) (a.map u8R ++ b.map u8R) = a.map u8R ++ b.map u8R:=List.take_of_length_le (by simp)
      have hfz:∀ m d,frzR m d (a.map u8R ++ b.map u8R) = some (a.map u8R ++ b.map u8R):=fun m d=>frzR_flat m d ((flatU a).append (flatU b))
      have hln:a.length + b.length ≤ a.length + b.length:=Nat.le_refl _
      simp +decide only [go_sem,finish,ht,hfz,List.length_map,List.length_append,List.map_append]<;>rfl
end Go.KInst
