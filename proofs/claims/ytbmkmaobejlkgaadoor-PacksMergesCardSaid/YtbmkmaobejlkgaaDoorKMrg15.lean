/- Part of a proof. No condition. -/
import Derived.Test.YtbmkmaobejlkgaaDoorKMrg14
set_option linter.unusedSimpArgs false
set_option linter.unusedVariables false
namespace Go.KInst
open Go.Proofs Go.Ax Go.Pc
set_option maxRecDepth 100000
/-- A list of bytes as an argument. -/
structure Bl where
 c:Option (Option Nat)
 l:List Nat
def Bl.enc (r:Bl):List AV:=[sl r.c (r.l.map u8R)]
def vk (r:List Nat) (k:Nat):Nat:=r.getD k 2
theorem vk_lt {r:List Nat} (h:∀ x ∈ r,x < 256) (k:Nat):vk r k < 256:=by
 unfold vk
 rw [List.getD_eq_getElem?_getD]
 cases hh:r[k]? with
 | none=>simp
 | some x=>exact h x (List.mem_of_getElem? hh)
def aK (r:List Nat) (n k:Nat):List Nat:=(List.range (min k n)).map (vk r)
def bK (r:List Nat) (n k:Nat):List Nat:=(List.range (k - n)).map fun j=>vk r (n + j)
theorem aK_lt {r:List Nat} (h:∀ x ∈ r,x < 256) (n k:Nat):∀ x ∈ aK r n k,x < 256:=by
 intro x hx;obtain ⟨j,_,rfl⟩:=List.mem_map.1 hx;exact vk_lt h j
theorem bK_lt {r:List Nat} (h:∀ x ∈ r,x < 256) (n k:Nat):∀ x ∈ bK r n k,x < 256:=by
 intro x hx;obtain ⟨j,_,rfl⟩:=List.mem_map.1 hx;exact vk_lt h (n + j)
theorem aK_succ {r:List Nat} {n k:Nat} (h:k < n):aK r n (k + 1) = aK r n k ++ [vk r k]:=by
 unfold aK
 rw [Nat.min_eq_left (by omega),Nat.min_eq_left (by omega),List.range_succ,List.map_append];rfl
theorem aK_stay {r:List Nat} {n k:Nat} (h:¬ k < n):aK r n (k + 1) = aK r n k:=by
 unfold aK
 rw [Nat.min_eq_right (by omega),Nat.min_eq_right (by omega)]
theorem bK_succ {r:List Nat} {n k:Nat} (h:¬ k < n):bK r n (k + 1) = bK r n k ++ [vk r k]:=by
 unfold bK
 rw [show k + 1 - n = (k - n) + 1 by omega,List.range_succ,List.map_append]
 simp only [List.map_cons,List.map_nil]
 rw [show n + (k - n) = k by omega]
theorem bK_nil {r:List Nat} {n k:Nat} (h:k ≤ n):bK r n k = []:=by
 unfold bK;rw [show k - n = 0 by omega];rfl
/-- The cubes of such lists. -/
def shC (n m:Nat) (r:List Nat):Cb:=ofC (aK r n (n + m)) (bK r n (n + m))
theorem shC_sh (n m:Nat) (hn:n + m ≤ 100) (r:List Nat):(shC n m r).sh n m:=by
 refine ⟨⟨?_,?_⟩,?_,?_⟩
 ·simp [shC,ofC,m3,aK,bK];omega
 ·intro v hv
  unfold Cb.all shC ofC m3 at hv
  simp only [List.mem_append,List.mem_map] at hv
  rcases hv with ⟨x,_,rfl⟩|⟨x,_,rfl⟩<;>omega
 ·simp [shC,ofC,m3,aK]
 ·simp [shC,ofC,m3,bK]
/-- The heap while one is built. -/
inductive ShS (X:Heap) (A B:List Nat):Heap → Prop
 | nn (h1:A = []) (h2:B = []):ShS X A B (X ++ [some (.row 2 [[.nilslice,.nilslice]])])
 | bn (h1:A ≠ []) (h2:B = []):ShS X A B (X ++ [some (.row 2 [[.slice (X.length + 1) 0 A.length none,.nilslice]]),some (.row 1 (A.map u8R))])
 | nb (h1:A = []) (h2:B ≠ []):ShS X A B (X ++ [some (.row 2 [[.nilslice,.slice (X.length + 1) 0 B.length none]]),some (.row 1 (B.map u8R))])
 | bb (h1:A ≠ []) (h2:B ≠ []):ShS X A B (X ++ [some (.row 2 [[.slice (X.length + 1) 0 A.length none,.slice (X.length + 2) 0 B.length none]]),some (.row 1 (A.map u8R)),some (.row 1 (B.map u8R))])
def OX (outs:List Cb) (OV:AV) (X:Heap):Prop:=(outs = [] ∧ OV = .nilslice ∧ X = []) ∨ (outs ≠ [] ∧ OV = .slice 0 0 outs.length none ∧ X = [some (.row 2 (outs.map Cb.cells))])
def resS (ps:List Cb):AV:=slF none (ps.map Cb.cells)
theorem ofC_cells (a b:List Nat):(ofC a b).cells = [slU (m3 a),slU (m3 b)]:=by simp only [Cb.cells,ofC,slU_eq]
theorem ren_slU (π:Nat → Option Nat) (l:List Nat):ren π (slU l) = slU l:=ren_flat _ _ (slU_refs l)
theorem refsP2 (a b:List Nat):refs (.agg [slU a,slU b]) = []:=by simp [refs,refsL,slU_refs]
abbrev OfF:FuncId:=41
theorem ofN (H:Heap):callV L.env false (sem L.env Mf) (.func (.func OfF) [] []) [.agg [.nilslice,.nilslice]] H = some (.agg [slU (m3 []),slU (m3 [])],H,[]):=
 callV_flat (by kernel_rfl) (by kernel_rfl) rfl rfl of_nn (refsP2 _ _)
theorem ofA {H:Heap} {b:Nat} {l:List Nat} (h0:l ≠ []) (hl:l.length ≤ 1000) (hb:∀ x ∈ l,x < 256) (hh:HeapF H b = some (.row 1 (l.map u8R))):callV L.env false (sem L.env Mf) (.func (.func OfF) [] []) [.agg [.slice b 0 l.length none,.nilslice]] H = some (.agg [slU (m3 l),slU (m3 [])],H,[b]):=
 callV_one (b:=b) (by kernel_rfl) (by kernel_rfl) rfl hh (refsO_flat (flatU l)) (FlatO.row (flatU l)) rfl (args':=[.agg [.slice 0 0 l.length none,.nilslice]]) (by simp [ren,renL,piOf]) (of_bn l h0 hl hb) (refsP2 _ _)
theorem ofB {H:Heap} {b:Nat} {l:List Nat} (h0:l ≠ []) (hl:l.length ≤ 1000) (hb:∀ x ∈ l,x < 256) (hh:HeapF H b = some (.row 1 (l.map u8R))):callV L.env false (sem L.env Mf) (.func (.func OfF) [] []) [.agg [.nilslice,.slice b 0 l.length none]] H = some (.agg [slU (m3 []),slU (m3 l)],H,[b]):=
 callV_one (b:=b) (by kernel_rfl) (by kernel_rfl) rfl hh (refsO_flat (flatU l)) (FlatO.row (flatU l)) rfl (args':=[.agg [.nilslice,.slice 0 0 l.length none]]) (by simp [ren,renL,piOf]) (of_nb l h0 hl hb) (refsP2 _ _)
theorem ofAB {H:Heap} {b d:Nat} {l k:List Nat} (hbd:b ≠ d) (h0:l ≠ []) (hl:l.length ≤ 1000) (hb:∀ x ∈ l,x < 256) (k0:k ≠ []) (kl:k.length ≤ 1000) (kb:∀ x ∈ k,x < 256) (hh:HeapF H b = some (.row 1 (l.map u8R))) (hk:HeapF H d = some (.row 1 (k.map u8R))):callV L.env false (sem L.env Mf) (.func (.func OfF) [] []) [.agg [.slice b 0 l.length none,.slice d 0 k.length none]] H = some (.agg [slU (m3 l),slU (m3 k)],H,[b,d]):=by
 have hc:=callV_two (E:=L.env) (draw:=false) (call:=sem L.env Mf) (g:=OfF) (fs:=[]) (cs:=[]) (ar:=[.agg [.slice b 0 l.length none,.slice d 0 k.length none]]) (by kernel_rfl) (by kernel_rfl) rfl hbd hh hk (refsO_flat (flatU l)) (refsO_flat (flatU k)) (FlatO.row (flatU l)) (FlatO.row (flatU k)) rfl
  (args':=[.agg [.slice 0 0 l.length none,.slice 1 0 k.length none]]) (by simp [ren,renL,piOf,List.idxOf?_cons,hbd]) (of_bb l k h0 k0 hl kl hb kb) (FlatO.row (flatU l)) (FlatO.row (flatU k)) (v':=.agg [slU (m3 l),slU (m3 k)]) (ren_flat _ _ (refsP2 _ _))
 rw [set_same hh,set_same hk] at hc
 exact hc
set_option maxHeartbeats 200000000 in
theorem shaped_ok (c:Option (Option Nat)) (ls:List Bl) (hb:∀ r ∈ ls,∀ x ∈ r.l,x < 256) (hl:ls.length ≤ 100) (z:Nat) (hz:z < 256):sem L.env Mf 18 [sl c (ls.map Bl.enc),.int .u8 z] [] = some (resS (ls.map fun r=>shC (z % 4) (z / 4 % 3) r.l),[]):=by
 suffices hs:∃ r:AV × Heap,(r = (resS (ls.map fun r=>shC (z % 4) (z / 4 % 3) r.l),[])) ∧ sem L.env Mf 18 [sl c (ls.map Bl.enc),.int .u8 z] [] = some r by
  obtain ⟨r,rfl,h3⟩:=hs
  exact h3
 have w1:IntKind.i64.wrap ((z % 4:Nat):Int) = (z % 4:Nat):=w64 (by omega) (by omega)
 have w2:IntKind.i64.wrap ((z / 4 % 3:Nat):Int) = (z / 4 % 3:Nat):=w64 (by omega) (by omega)
 have hwq:IntKind.u8.wrap ((z / 4:Nat):Int) = ((z / 4:Nat):Int):=wB (by omega)
 (refine svE Tryd.f18 ?_;simp only [Tryd.f18,gS])
 (repeat first|simp only [ww]|(apply xa;simp +decide only [go_sem,w1,hwq,w2];rfl;kernel_rfl))
 have hn:z % 4 ≤ 3:=by omega
 have hm:z / 4 % 3 ≤ 2:=by omega
 clear w1 w2 hwq
 generalize z % 4 = n at hn ⊢
 generalize z / 4 % 3 = m at hm ⊢
 have wnm:IntKind.i64.wrap ((n:Int) + (m:Int)) = ((n + m:Nat):Int):=by rw [w64 (by omega) (by omega)];omega
 refine xp_lp kp18_0 (fun q F H1=>∃ (i:Nat) (outs:List Cb) (OV:AV),q = ls.length - i ∧ i ≤ ls.length ∧ outs = ((ls.take i).map fun r=>shC n m r.l) ∧ OX outs OV H1 ∧ F = [(0,sl c (ls.map Bl.enc)),(5,OV),(6,.int .i64 n),(7,.int .i64 m),(8,.int .i64 i)]) ls.length ?_ ?_
 ·refine ⟨_,_,?_,0,[],.nilslice,rfl,Nat.zero_le _,rfl,.inl ⟨rfl,rfl,rfl⟩,rfl⟩
  (simp +decide only [go_sem,gcD_eq,gcIds_eq]<;>rfl)<;>rfl
 ·rintro q F H1 ⟨i,outs,OV,rfl,hi,ho,hO,rfl⟩
  by_cases hlt:i < ls.length
  ·have c1:(i:Int) < ls.length:=by omega
   obtain ⟨r,hr⟩:∃ r,ls[i]? = some r:=⟨_,List.getElem?_eq_getElem hlt⟩
   have hg:(ls.map Bl.enc)[i]? = some r.enc:=by rw [List.getElem?_map,hr];rfl
   have hg2:(ls.map Bl.enc)[i]? = some [sl r.c (r.l.map u8R)]:=hg
   have hrb:=hb r (List.mem_of_getElem? hr)
   have hwi:=wI1 (n:=i) (by omega)
   have hst:((ls.take (i + 1)).map fun r=>shC n m r.l) = outs ++ [shC n m r.l]:=by
    rw [ho,List.take_add_one,hr];simp
   have hol:outs.length = i:=by rw [ho];simp;omega
   have hmx:i - 1 + 2 ≤ 1000000000:=by omega
   rcases hO with ⟨rfl,rfl,rfl⟩|⟨hne,rfl,rfl⟩
   all_goals
    (repeat first|simp only [ww]|(apply xa;simp +decide only [go_sem,c1,hlt,hg,List.length_map];rfl;kernel_rfl))
   ·refine xp_lp kp18_2 (fun q F H=>∃ (k:Nat),q = n + m - k ∧ k ≤ n + m ∧ F = [(0,sl c (ls.map Bl.enc)),(5,.nilslice),(6,.int .i64 n),(7,.int .i64 m),(8,.int .i64 i),(9,.ptr 0 0 0),(10,.int .i64 k)] ∧ ShS [] (aK r.l n k) (bK r.l n k) H) (n + m) ?_ ?_
    ·refine ⟨_,_,?_,0,rfl,Nat.zero_le _,rfl,.nn (by simp [aK]) (by simp [bK])⟩
     (simp +decide only [go_sem,gcD_eq,gcIds_eq]<;>rfl)<;>rfl
    ·rintro q F H1 ⟨k,rfl,hk,rfl,hS⟩
     have hA:=aK_lt hrb n k
     have hB:=bK_lt hrb n k
     have hAl:(aK r.l n k).length + 1 ≤ 1000000000:=by simp [aK];omega
     have hBl:(bK r.l n k).length + 1 ≤ 1000000000:=by simp [bK];omega
     by_cases hkn:k < n + m
     ·have d1:(k:Int) < ((n + m:Nat):Int):=by omega
      have hwk:=wI1 (n:=k) (by omega)
      by_cases hkl:k < r.l.length
      ·have d2:(k:Int) < r.l.length:=by omega
       obtain ⟨x,hx⟩:∃ x,r.l[k]? = some x:=⟨_,List.getElem?_eq_getElem hkl⟩
       have hgx:(r.l.map u8R)[k]? = some [.int .u8 x]:=by rw [List.getElem?_map,hx];rfl
       have hv:vk r.l k = x:=by simp [vk,List.getD_eq_getElem?_getD,hx]
       by_cases hki:k < n
       ·have d3:(k:Int) < n:=by omega
        have hb0:bK r.l n k = []:=bK_nil (by omega)
        have hb1:bK r.l n (k + 1) = []:=bK_nil (by omega)
        have ha1:=aK_succ (r:=r.l) hki
        rw [hv] at ha1
        rw [hb0] at hS
        generalize aK r.l n k = A at hS ha1 hAl
        cases hS with
        | nn h1 h2=>
         subst h1
         (repeat first|simp only [ww]|(apply xa;simp +decide only [go_sem,wnm,d1,d3,hg2,hlt,hwk,hAl,hBl,List.length_map,List.nil_append,List.cons_append,List.length_nil,List.length_cons,List.map_nil,List.map_cons,d2,hgx,hkl];rfl;kernel_rfl))
         refine lpJ_n (n + m - (k + 1)) (by omega) ⟨_,?_,?_,k + 1,rfl,by omega,rfl,?_⟩
         rotate_left
         ·(simp +decide only [go_sem,gcD_eq,gcIds_eq,refsU,renU]<;>rfl)<;>rfl
         ·rw [ha1,hb1]
          have hS:=ShS.bn (X:=([]:Heap)) (A:=[x]) (B:=[]) (by first|assumption|(simp;done)) (by first|assumption|(simp;done))
          simp only [List.length_append,List.map_append,List.length_cons,List.length_nil,List.map_cons,List.map_nil,List.nil_append,List.cons_append] at hS
          exact hS
        | bn h1 h2=>
         (repeat first|simp only [ww]|(apply xa;simp +decide only [go_sem,wnm,d1,d3,hg2,hlt,hwk,hAl,hBl,List.length_map,List.nil_append,List.cons_append,List.length_nil,List.length_cons,List.map_nil,List.map_cons,d2,hgx,hkl];rfl;kernel_rfl))
         refine lpJ_n (n + m - (k + 1)) (by omega) ⟨_,?_,?_,k + 1,rfl,by omega,rfl,?_⟩
         rotate_left
         ·(simp +decide only [go_sem,gcD_eq,gcIds_eq,refsU,renU]<;>rfl)<;>rfl
         ·rw [ha1,hb1]
          have hS:=ShS.bn (X:=([]:Heap)) (A:=A ++ [x]) (B:=[]) (by first|assumption|(simp;done)) (by first|assumption|(simp;done))
          simp only [List.length_append,List.map_append,List.length_cons,List.length_nil,List.map_cons,List.map_nil,List.nil_append,List.cons_append] at hS
          exact hS
        | nb h1 h2=>exact absurd rfl h2
        | bb h1 h2=>exact absurd rfl h2
       ·have d3:¬ (k:Int) < n:=by omega
        have ha1:=aK_stay (r:=r.l) hki
        have hb1:=bK_succ (r:=r.l) hki
        rw [hv] at hb1
        generalize bK r.l n k = B at hS hb1 hBl
        generalize aK r.l n k = A at hS ha1 hAl
        cases hS with
        | nn h1 h2=>
         subst h1
         subst h2
         (repeat first|simp only [ww]|(apply xa;simp +decide only [go_sem,wnm,d1,d3,hg2,hlt,hwk,hAl,hBl,List.length_map,List.nil_append,List.cons_append,List.length_nil,List.length_cons,List.map_nil,List.map_cons,d2,hgx,hkl];rfl;kernel_rfl))
         refine lpJ_n (n + m - (k + 1)) (by omega) ⟨_,?_,?_,k + 1,rfl,by omega,rfl,?_⟩
         rotate_left
         ·(simp +decide only [go_sem,gcD_eq,gcIds_eq,refsU,renU]<;>rfl)<;>rfl
         ·rw [ha1,hb1]
          have hS:=ShS.nb (X:=([]:Heap)) (A:=[]) (B:=[x]) (by first|assumption|(simp;done)) (by first|assumption|(simp;done))
          simp only [List.length_append,List.map_append,List.length_cons,List.length_nil,List.map_cons,List.map_nil,List.nil_append,List.cons_append] at hS
          exact hS
        | bn h1 h2=>
         subst h2
         (repeat first|simp only [ww]|(apply xa;simp +decide only [go_sem,wnm,d1,d3,hg2,hlt,hwk,hAl,hBl,List.length_map,List.nil_append,List.cons_append,List.length_nil,List.length_cons,List.map_nil,List.map_cons,d2,hgx,hkl];rfl;kernel_rfl))
         refine lpJ_n (n + m - (k + 1)) (by omega) ⟨_,?_,?_,k + 1,rfl,by omega,rfl,?_⟩
         rotate_left
         ·(simp +decide only [go_sem,gcD_eq,gcIds_eq,refsU,renU]<;>rfl)<;>rfl
         ·rw [ha1,hb1]
          have hS:=ShS.bb (X:=([]:Heap)) (A:=A) (B:=[x]) (by first|assumption|(simp;done)) (by first|assumption|(simp;done))
          simp only [List.length_append,List.map_append,List.length_cons,List.length_nil,List.map_cons,List.map_nil,List.nil_append,List.cons_append] at hS
          exact hS
        | nb h1 h2=>
         subst h1
         (repeat first|simp only [ww]|(apply xa;simp +decide only [go_sem,wnm,d1,d3,hg2,hlt,hwk,hAl,hBl,List.length_map,List.nil_append,List.cons_append,List.length_nil,List.length_cons,List.map_nil,List.map_cons,d2,hgx,hkl];rfl;kernel_rfl))
         refine lpJ_n (n + m - (k + 1)) (by omega) ⟨_,?_,?_,k + 1,rfl,by omega,rfl,?_⟩
         rotate_left
         ·(simp +decide only [go_sem,gcD_eq,gcIds_eq,refsU,renU]<;>rfl)<;>rfl
         ·rw [ha1,hb1]
          have hS:=ShS.nb (X:=([]:Heap)) (A:=[]) (B:=B ++ [x]) (by first|assumption|(simp;done)) (by first|assumption|(simp;done))
          simp only [List.length_append,List.map_append,List.length_cons,List.length_nil,List.map_cons,List.map_nil,List.nil_append,List.cons_append] at hS
          exact hS
        | bb h1 h2=>
         (repeat first|simp only [ww]|(apply xa;simp +decide only [go_sem,wnm,d1,d3,hg2,hlt,hwk,hAl,hBl,List.length_map,List.nil_append,List.cons_append,List.length_nil,List.length_cons,List.map_nil,List.map_cons,d2,hgx,hkl];rfl;kernel_rfl))
         refine lpJ_n (n + m - (k + 1)) (by omega) ⟨_,?_,?_,k + 1,rfl,by omega,rfl,?_⟩
         rotate_left
         ·(simp +decide only [go_sem,gcD_eq,gcIds_eq,refsU,renU]<;>rfl)<;>rfl
         ·rw [ha1,hb1]
          have hS:=ShS.bb (X:=([]:Heap)) (A:=A) (B:=B ++ [x]) (by first|assumption|(simp;done)) (by first|assumption|(simp;done))
          simp only [List.length_append,List.map_append,List.length_cons,List.length_nil,List.map_cons,List.map_nil,List.nil_append,List.cons_append] at hS
          exact hS
      ·have d2:¬ (k:Int) < r.l.length:=by omega
       have hv:vk r.l k = 2:=by simp [vk,List.getD_eq_getElem?_getD,Nat.le_of_not_lt hkl]
       by_cases hki:k < n
       ·have d3:(k:Int) < n:=by omega
        have hb0:bK r.l n k = []:=bK_nil (by omega)
        have hb1:bK r.l n (k + 1) = []:=bK_nil (by omega)
        have ha1:=aK_succ (r:=r.l) hki
        rw [hv] at ha1
        rw [hb0] at hS
        generalize aK r.l n k = A at hS ha1 hAl
        cases hS with
        | nn h1 h2=>
         subst h1
         (repeat first|simp only [ww]|(apply xa;simp +decide only [go_sem,wnm,d1,d3,hg2,hlt,hwk,hAl,hBl,List.length_map,List.nil_append,List.cons_append,List.length_nil,List.length_cons,List.map_nil,List.map_cons,d2];rfl;kernel_rfl))
         refine lpJ_n (n + m - (k + 1)) (by omega) ⟨_,?_,?_,k + 1,rfl,by omega,rfl,?_⟩
         rotate_left
         ·(simp +decide only [go_sem,gcD_eq,gcIds_eq,refsU,renU]<;>rfl)<;>rfl
         ·rw [ha1,hb1]
          have hS:=ShS.bn (X:=([]:Heap)) (A:=[2]) (B:=[]) (by first|assumption|(simp;done)) (by first|assumption|(simp;done))
          simp only [List.length_append,List.map_append,List.length_cons,List.length_nil,List.map_cons,List.map_nil,List.nil_append,List.cons_append] at hS
          exact hS
        | bn h1 h2=>
         (repeat first|simp only [ww]|(apply xa;simp +decide only [go_sem,wnm,d1,d3,hg2,hlt,hwk,hAl,hBl,List.length_map,List.nil_append,List.cons_append,List.length_nil,List.length_cons,List.map_nil,List.map_cons,d2];rfl;kernel_rfl))
         refine lpJ_n (n + m - (k + 1)) (by omega) ⟨_,?_,?_,k + 1,rfl,by omega,rfl,?_⟩
         rotate_left
         ·(simp +decide only [go_sem,gcD_eq,gcIds_eq,refsU,renU]<;>rfl)<;>rfl
         ·rw [ha1,hb1]
          have hS:=ShS.bn (X:=([]:Heap)) (A:=A ++ [2]) (B:=[]) (by first|assumption|(simp;done)) (by first|assumption|(simp;done))
          simp only [List.length_append,List.map_append,List.length_cons,List.length_nil,List.map_cons,List.map_nil,List.nil_append,List.cons_append] at hS
          exact hS
        | nb h1 h2=>exact absurd rfl h2
        | bb h1 h2=>exact absurd rfl h2
       ·have d3:¬ (k:Int) < n:=by omega
        have ha1:=aK_stay (r:=r.l) hki
        have hb1:=bK_succ (r:=r.l) hki
        rw [hv] at hb1
        generalize bK r.l n k = B at hS hb1 hBl
        generalize aK r.l n k = A at hS ha1 hAl
        cases hS with
        | nn h1 h2=>
         subst h1
         subst h2
         (repeat first|simp only [ww]|(apply xa;simp +decide only [go_sem,wnm,d1,d3,hg2,hlt,hwk,hAl,hBl,List.length_map,List.nil_append,List.cons_append,List.length_nil,List.length_cons,List.map_nil,List.map_cons,d2];rfl;kernel_rfl))
         refine lpJ_n (n + m - (k + 1)) (by omega) ⟨_,?_,?_,k + 1,rfl,by omega,rfl,?_⟩
         rotate_left
         ·(simp +decide only [go_sem,gcD_eq,gcIds_eq,refsU,renU]<;>rfl)<;>rfl
         ·rw [ha1,hb1]
          have hS:=ShS.nb (X:=([]:Heap)) (A:=[]) (B:=[2]) (by first|assumption|(simp;done)) (by first|assumption|(simp;done))
          simp only [List.length_append,List.map_append,List.length_cons,List.length_nil,List.map_cons,List.map_nil,List.nil_append,List.cons_append] at hS
          exact hS
        | bn h1 h2=>
         subst h2
         (repeat first|simp only [ww]|(apply xa;simp +decide only [go_sem,wnm,d1,d3,hg2,hlt,hwk,hAl,hBl,List.length_map,List.nil_append,List.cons_append,List.length_nil,List.length_cons,List.map_nil,List.map_cons,d2];rfl;kernel_rfl))
         refine lpJ_n (n + m - (k + 1)) (by omega) ⟨_,?_,?_,k + 1,rfl,by omega,rfl,?_⟩
         rotate_left
         ·(simp +decide only [go_sem,gcD_eq,gcIds_eq,refsU,renU]<;>rfl)<;>rfl
         ·rw [ha1,hb1]
          have hS:=ShS.bb (X:=([]:Heap)) (A:=A) (B:=[2]) (by first|assumption|(simp;done)) (by first|assumption|(simp;done))
          simp only [List.length_append,List.map_append,List.length_cons,List.length_nil,List.map_cons,List.map_nil,List.nil_append,List.cons_append] at hS
          exact hS
        | nb h1 h2=>
         subst h1
         (repeat first|simp only [ww]|(apply xa;simp +decide only [go_sem,wnm,d1,d3,hg2,hlt,hwk,hAl,hBl,List.length_map,List.nil_append,List.cons_append,List.length_nil,List.length_cons,List.map_nil,List.map_cons,d2];rfl;kernel_rfl))
         refine lpJ_n (n + m - (k + 1)) (by omega) ⟨_,?_,?_,k + 1,rfl,by omega,rfl,?_⟩
         rotate_left
         ·(simp +decide only [go_sem,gcD_eq,gcIds_eq,refsU,renU]<;>rfl)<;>rfl
         ·rw [ha1,hb1]
          have hS:=ShS.nb (X:=([]:Heap)) (A:=[]) (B:=B ++ [2]) (by first|assumption|(simp;done)) (by first|assumption|(simp;done))
          simp only [List.length_append,List.map_append,List.length_cons,List.length_nil,List.map_cons,List.map_nil,List.nil_append,List.cons_append] at hS
          exact hS
        | bb h1 h2=>
         (repeat first|simp only [ww]|(apply xa;simp +decide only [go_sem,wnm,d1,d3,hg2,hlt,hwk,hAl,hBl,List.length_map,List.nil_append,List.cons_append,List.length_nil,List.length_cons,List.map_nil,List.map_cons,d2];rfl;kernel_rfl))
         refine lpJ_n (n + m - (k + 1)) (by omega) ⟨_,?_,?_,k + 1,rfl,by omega,rfl,?_⟩
         rotate_left
         ·(simp +decide only [go_sem,gcD_eq,gcIds_eq,refsU,renU]<;>rfl)<;>rfl
         ·rw [ha1,hb1]
          have hS:=ShS.bb (X:=([]:Heap)) (A:=A) (B:=B ++ [2]) (by first|assumption|(simp;done)) (by first|assumption|(simp;done))
          simp only [List.length_append,List.map_append,List.length_cons,List.length_nil,List.map_cons,List.map_nil,List.nil_append,List.cons_append] at hS
          exact hS
     ·obtain rfl:k = n + m:=by omega
      have d1:¬ ((n + m:Nat):Int) < ((n + m:Nat):Int):=by omega
      have hal:(aK r.l n (n + m)).length ≤ 1000:=by simp [aK];omega
      have hbl:(bK r.l n (n + m)).length ≤ 1000:=by simp [bK];omega
      have hsh:(shC n m r.l).cells = [slU (m3 (aK r.l n (n + m))),slU (m3 (bK r.l n (n + m)))]:=ofC_cells _ _
      generalize aK r.l n (n + m) = A at hS hal hA hsh
      generalize bK r.l n (n + m) = B at hS hbl hB hsh
      cases hS with
      | nn h1 h2=>
       subst h1
       subst h2
       have hc:=fun H=>ofN H
       skip
       (repeat first|simp only [ww]|(apply xa;simp +decide only [go_sem,wnm,d1,hc,slU_cells,slU_sto,slU_junk,hwi,List.length_map,List.length_nil,List.length_cons,List.map_nil,List.map_cons];rfl;kernel_rfl))
       refine lpJ_n (ls.length - (i + 1)) (by omega) ⟨_,[some (.row 2 ([shC n m r.l].map Cb.cells))],?_,i + 1,[shC n m r.l],_,rfl,hlt,hst.symm,.inr ⟨by simp,rfl,rfl⟩,rfl⟩
       (simp +decide only [go_sem,gcD_eq,gcIds_eq,refsP,renP,slU_refs,ren_slU,renU,refsU,hsh,List.length_append,List.length_cons,List.length_nil,List.map_append,List.map_cons,List.map_nil]<;>rfl)<;>rfl
      | bn h1 h2=>
       subst h2
       have hc:=fun (t:Heap)=>ofA h1 hal hA (show HeapF (([]:Heap) ++ [some (.row 2 [[.slice (0 + 1) 0 A.length none,.nilslice]]),some (.row 1 (A.map u8R))] ++ t) (0 + 1) = _ from rfl)
       have hc:=hc []
       simp only [List.append_nil,List.cons_append,List.nil_append,Nat.zero_add,Nat.reduceAdd] at hc
       skip
       (repeat first|simp only [ww]|(apply xa;simp +decide only [go_sem,wnm,d1,hc,slU_cells,slU_sto,slU_junk,hwi,List.length_map,List.length_nil,List.length_cons,List.map_nil,List.map_cons];rfl;kernel_rfl))
       refine lpJ_n (ls.length - (i + 1)) (by omega) ⟨_,[some (.row 2 ([shC n m r.l].map Cb.cells))],?_,i + 1,[shC n m r.l],_,rfl,hlt,hst.symm,.inr ⟨by simp,rfl,rfl⟩,rfl⟩
       (simp +decide only [go_sem,gcD_eq,gcIds_eq,refsP,renP,slU_refs,ren_slU,renU,refsU,hsh,List.length_append,List.length_cons,List.length_nil,List.map_append,List.map_cons,List.map_nil]<;>rfl)<;>rfl
      | nb h1 h2=>
       subst h1
       have hc:=fun (t:Heap)=>ofB h2 hbl hB (show HeapF (([]:Heap) ++ [some (.row 2 [[.nilslice,.slice (0 + 1) 0 B.length none]]),some (.row 1 (B.map u8R))] ++ t) (0 + 1) = _ from rfl)
       have hc:=hc []
       simp only [List.append_nil,List.cons_append,List.nil_append,Nat.zero_add,Nat.reduceAdd] at hc
       skip
       (repeat first|simp only [ww]|(apply xa;simp +decide only [go_sem,wnm,d1,hc,slU_cells,slU_sto,slU_junk,hwi,List.length_map,List.length_nil,List.length_cons,List.map_nil,List.map_cons];rfl;kernel_rfl))
       refine lpJ_n (ls.length - (i + 1)) (by omega) ⟨_,[some (.row 2 ([shC n m r.l].map Cb.cells))],?_,i + 1,[shC n m r.l],_,rfl,hlt,hst.symm,.inr ⟨by simp,rfl,rfl⟩,rfl⟩
       (simp +decide only [go_sem,gcD_eq,gcIds_eq,refsP,renP,slU_refs,ren_slU,renU,refsU,hsh,List.length_append,List.length_cons,List.length_nil,List.map_append,List.map_cons,List.map_nil]<;>rfl)<;>rfl
      | bb h1 h2=>
       have hc:=fun (t:Heap)=>ofAB (show 0 + 1 ≠ 0 + 2 by omega) h1 hal hA h2 hbl hB (show HeapF (([]:Heap) ++ [some (.row 2 [[.slice (0 + 1) 0 A.length none,.slice (0 + 2) 0 B.length none]]),some (.row 1 (A.map u8R)),some (.row 1 (B.map u8R))] ++ t) (0 + 1) = _ from rfl) rfl
       have hc:=hc []
       simp only [List.append_nil,List.cons_append,List.nil_append,Nat.zero_add,Nat.reduceAdd] at hc
       skip
       (repeat first|simp only [ww]|(apply xa;simp +decide only [go_sem,wnm,d1,hc,slU_cells,slU_sto,slU_junk,hwi,List.length_map,List.length_nil,List.length_cons,List.map_nil,List.map_cons];rfl;kernel_rfl))
       refine lpJ_n (ls.length - (i + 1)) (by omega) ⟨_,[some (.row 2 ([shC n m r.l].map Cb.cells))],?_,i + 1,[shC n m r.l],_,rfl,hlt,hst.symm,.inr ⟨by simp,rfl,rfl⟩,rfl⟩
       (simp +decide only [go_sem,gcD_eq,gcIds_eq,refsP,renP,slU_refs,ren_slU,renU,refsU,hsh,List.length_append,List.length_cons,List.length_nil,List.map_append,List.map_cons,List.map_nil]<;>rfl)<;>rfl
   ·refine xp_lp kp18_2 (fun q F H=>∃ (k:Nat),q = n + m - k ∧ k ≤ n + m ∧ F = [(0,sl c (ls.map Bl.enc)),(5,.slice 0 0 outs.length none),(6,.int .i64 n),(7,.int .i64 m),(8,.int .i64 i),(9,.ptr 1 0 0),(10,.int .i64 k)] ∧ ShS [some (.row 2 (outs.map Cb.cells))] (aK r.l n k) (bK r.l n k) H) (n + m) ?_ ?_
    ·refine ⟨_,_,?_,0,rfl,Nat.zero_le _,rfl,.nn (by simp [aK]) (by simp [bK])⟩
     (simp +decide only [go_sem,gcD_eq,gcIds_eq,refsP,renP]<;>rfl)<;>rfl
    ·rintro q F H1 ⟨k,rfl,hk,rfl,hS⟩
     have hA:=aK_lt hrb n k
     have hB:=bK_lt hrb n k
     have hAl:(aK r.l n k).length + 1 ≤ 1000000000:=by simp [aK];omega
     have hBl:(bK r.l n k).length + 1 ≤ 1000000000:=by simp [bK];omega
     by_cases hkn:k < n + m
     ·have d1:(k:Int) < ((n + m:Nat):Int):=by omega
      have hwk:=wI1 (n:=k) (by omega)
      by_cases hkl:k < r.l.length
      ·have d2:(k:Int) < r.l.length:=by omega
       obtain ⟨x,hx⟩:∃ x,r.l[k]? = some x:=⟨_,List.getElem?_eq_getElem hkl⟩
       have hgx:(r.l.map u8R)[k]? = some [.int .u8 x]:=by rw [List.getElem?_map,hx];rfl
       have hv:vk r.l k = x:=by simp [vk,List.getD_eq_getElem?_getD,hx]
       by_cases hki:k < n
       ·have d3:(k:Int) < n:=by omega
        have hb0:bK r.l n k = []:=bK_nil (by omega)
        have hb1:bK r.l n (k + 1) = []:=bK_nil (by omega)
        have ha1:=aK_succ (r:=r.l) hki
        rw [hv] at ha1
        rw [hb0] at hS
        generalize aK r.l n k = A at hS ha1 hAl
        cases hS with
        | nn h1 h2=>
         subst h1
         (repeat first|simp only [ww]|(apply xa;simp +decide only [go_sem,wnm,d1,d3,hg2,hlt,hwk,hAl,hBl,List.length_map,List.nil_append,List.cons_append,List.length_nil,List.length_cons,List.map_nil,List.map_cons,d2,hgx,hkl];rfl;kernel_rfl))
         refine lpJ_n (n + m - (k + 1)) (by omega) ⟨_,?_,?_,k + 1,rfl,by omega,rfl,?_⟩
         rotate_left
         ·(simp +decide only [go_sem,gcD_eq,gcIds_eq,refsU,renU,refsP,renP]<;>rfl)<;>rfl
         ·rw [ha1,hb1]
          have hS:=ShS.bn (X:=[some (.row 2 (outs.map Cb.cells))]) (A:=[x]) (B:=[]) (by first|assumption|(simp;done)) (by first|assumption|(simp;done))
          simp only [List.length_append,List.map_append,List.length_cons,List.length_nil,List.map_cons,List.map_nil,List.nil_append,List.cons_append] at hS
          exact hS
        | bn h1 h2=>
         (repeat first|simp only [ww]|(apply xa;simp +decide only [go_sem,wnm,d1,d3,hg2,hlt,hwk,hAl,hBl,List.length_map,List.nil_append,List.cons_append,List.length_nil,List.length_cons,List.map_nil,List.map_cons,d2,hgx,hkl];rfl;kernel_rfl))
         refine lpJ_n (n + m - (k + 1)) (by omega) ⟨_,?_,?_,k + 1,rfl,by omega,rfl,?_⟩
         rotate_left
         ·(simp +decide only [go_sem,gcD_eq,gcIds_eq,refsU,renU,refsP,renP]<;>rfl)<;>rfl
         ·rw [ha1,hb1]
          have hS:=ShS.bn (X:=[some (.row 2 (outs.map Cb.cells))]) (A:=A ++ [x]) (B:=[]) (by first|assumption|(simp;done)) (by first|assumption|(simp;done))
          simp only [List.length_append,List.map_append,List.length_cons,List.length_nil,List.map_cons,List.map_nil,List.nil_append,List.cons_append] at hS
          exact hS
        | nb h1 h2=>exact absurd rfl h2
        | bb h1 h2=>exact absurd rfl h2
       ·have d3:¬ (k:Int) < n:=by omega
        have ha1:=aK_stay (r:=r.l) hki
        have hb1:=bK_succ (r:=r.l) hki
        rw [hv] at hb1
        generalize bK r.l n k = B at hS hb1 hBl
        generalize aK r.l n k = A at hS ha1 hAl
        cases hS with
        | nn h1 h2=>
         subst h1
         subst h2
         (repeat first|simp only [ww]|(apply xa;simp +decide only [go_sem,wnm,d1,d3,hg2,hlt,hwk,hAl,hBl,List.length_map,List.nil_append,List.cons_append,List.length_nil,List.length_cons,List.map_nil,List.map_cons,d2,hgx,hkl];rfl;kernel_rfl))
         refine lpJ_n (n + m - (k + 1)) (by omega) ⟨_,?_,?_,k + 1,rfl,by omega,rfl,?_⟩
         rotate_left
         ·(simp +decide only [go_sem,gcD_eq,gcIds_eq,refsU,renU,refsP,renP]<;>rfl)<;>rfl
         ·rw [ha1,hb1]
          have hS:=ShS.nb (X:=[some (.row 2 (outs.map Cb.cells))]) (A:=[]) (B:=[x]) (by first|assumption|(simp;done)) (by first|assumption|(simp;done))
          simp only [List.length_append,List.map_append,List.length_cons,List.length_nil,List.map_cons,List.map_nil,List.nil_append,List.cons_append] at hS
          exact hS
        | bn h1 h2=>
         subst h2
         (repeat first|simp only [ww]|(apply xa;simp +decide only [go_sem,wnm,d1,d3,hg2,hlt,hwk,hAl,hBl,List.length_map,List.nil_append,List.cons_append,List.length_nil,List.length_cons,List.map_nil,List.map_cons,d2,hgx,hkl];rfl;kernel_rfl))
         refine lpJ_n (n + m - (k + 1)) (by omega) ⟨_,?_,?_,k + 1,rfl,by omega,rfl,?_⟩
         rotate_left
         ·(simp +decide only [go_sem,gcD_eq,gcIds_eq,refsU,renU,refsP,renP]<;>rfl)<;>rfl
         ·rw [ha1,hb1]
          have hS:=ShS.bb (X:=[some (.row 2 (outs.map Cb.cells))]) (A:=A) (B:=[x]) (by first|assumption|(simp;done)) (by first|assumption|(simp;done))
          simp only [List.length_append,List.map_append,List.length_cons,List.length_nil,List.map_cons,List.map_nil,List.nil_append,List.cons_append] at hS
          exact hS
        | nb h1 h2=>
         subst h1
         (repeat first|simp only [ww]|(apply xa;simp +decide only [go_sem,wnm,d1,d3,hg2,hlt,hwk,hAl,hBl,List.length_map,List.nil_append,List.cons_append,List.length_nil,List.length_cons,List.map_nil,List.map_cons,d2,hgx,hkl];rfl;kernel_rfl))
         refine lpJ_n (n + m - (k + 1)) (by omega) ⟨_,?_,?_,k + 1,rfl,by omega,rfl,?_⟩
         rotate_left
         ·(simp +decide only [go_sem,gcD_eq,gcIds_eq,refsU,renU,refsP,renP]<;>rfl)<;>rfl
         ·rw [ha1,hb1]
          have hS:=ShS.nb (X:=[some (.row 2 (outs.map Cb.cells))]) (A:=[]) (B:=B ++ [x]) (by first|assumption|(simp;done)) (by first|assumption|(simp;done))
          simp only [List.length_append,List.map_append,List.length_cons,List.length_nil,List.map_cons,List.map_nil,List.nil_append,List.cons_append] at hS
          exact hS
        | bb h1 h2=>
         (repeat first|simp only [ww]|(apply xa;simp +decide only [go_sem,wnm,d1,d3,hg2,hlt,hwk,hAl,hBl,List.length_map,List.nil_append,List.cons_append,List.length_nil,List.length_cons,List.map_nil,List.map_cons,d2,hgx,hkl];rfl;kernel_rfl))
         refine lpJ_n (n + m - (k + 1)) (by omega) ⟨_,?_,?_,k + 1,rfl,by omega,rfl,?_⟩
         rotate_left
         ·(simp +decide only [go_sem,gcD_eq,gcIds_eq,refsU,renU,refsP,renP]<;>rfl)<;>rfl
         ·rw [ha1,hb1]
          have hS:=ShS.bb (X:=[some (.row 2 (outs.map Cb.cells))]) (A:=A) (B:=B ++ [x]) (by first|assumption|(simp;done)) (by first|assumption|(simp;done))
          simp only [List.length_append,List.map_append,List.length_cons,List.length_nil,List.map_cons,List.map_nil,List.nil_append,List.cons_append] at hS
          exact hS
      ·have d2:¬ (k:Int) < r.l.length:=by omega
       have hv:vk r.l k = 2:=by simp [vk,List.getD_eq_getElem?_getD,Nat.le_of_not_lt hkl]
       by_cases hki:k < n
       ·have d3:(k:Int) < n:=by omega
        have hb0:bK r.l n k = []:=bK_nil (by omega)
        have hb1:bK r.l n (k + 1) = []:=bK_nil (by omega)
        have ha1:=aK_succ (r:=r.l) hki
        rw [hv] at ha1
        rw [hb0] at hS
        generalize aK r.l n k = A at hS ha1 hAl
        cases hS with
        | nn h1 h2=>
         subst h1
         (repeat first|simp only [ww]|(apply xa;simp +decide only [go_sem,wnm,d1,d3,hg2,hlt,hwk,hAl,hBl,List.length_map,List.nil_append,List.cons_append,List.length_nil,List.length_cons,List.map_nil,List.map_cons,d2];rfl;kernel_rfl))
         refine lpJ_n (n + m - (k + 1)) (by omega) ⟨_,?_,?_,k + 1,rfl,by omega,rfl,?_⟩
         rotate_left
         ·(simp +decide only [go_sem,gcD_eq,gcIds_eq,refsU,renU,refsP,renP]<;>rfl)<;>rfl
         ·rw [ha1,hb1]
          have hS:=ShS.bn (X:=[some (.row 2 (outs.map Cb.cells))]) (A:=[2]) (B:=[]) (by first|assumption|(simp;done)) (by first|assumption|(simp;done))
          simp only [List.length_append,List.map_append,List.length_cons,List.length_nil,List.map_cons,List.map_nil,List.nil_append,List.cons_append] at hS
          exact hS
        | bn h1 h2=>
         (repeat first|simp only [ww]|(apply xa;simp +decide only [go_sem,wnm,d1,d3,hg2,hlt,hwk,hAl,hBl,List.length_map,List.nil_append,List.cons_append,List.length_nil,List.length_cons,List.map_nil,List.map_cons,d2];rfl;kernel_rfl))
         refine lpJ_n (n + m - (k + 1)) (by omega) ⟨_,?_,?_,k + 1,rfl,by omega,rfl,?_⟩
         rotate_left
         ·(simp +decide only [go_sem,gcD_eq,gcIds_eq,refsU,renU,refsP,renP]<;>rfl)<;>rfl
         ·rw [ha1,hb1]
          have hS:=ShS.bn (X:=[some (.row 2 (outs.map Cb.cells))]) (A:=A ++ [2]) (B:=[]) (by first|assumption|(simp;done)) (by first|assumption|(simp;done))
          simp only [List.length_append,List.map_append,List.length_cons,List.length_nil,List.map_cons,List.map_nil,List.nil_append,List.cons_append] at hS
          exact hS
        | nb h1 h2=>exact absurd rfl h2
        | bb h1 h2=>exact absurd rfl h2
       ·have d3:¬ (k:Int) < n:=by omega
        have ha1:=aK_stay (r:=r.l) hki
        have hb1:=bK_succ (r:=r.l) hki
        rw [hv] at hb1
        generalize bK r.l n k = B at hS hb1 hBl
        generalize aK r.l n k = A at hS ha1 hAl
        cases hS with
        | nn h1 h2=>
         subst h1
         subst h2
         (repeat first|simp only [ww]|(apply xa;simp +decide only [go_sem,wnm,d1,d3,hg2,hlt,hwk,hAl,hBl,List.length_map,List.nil_append,List.cons_append,List.length_nil,List.length_cons,List.map_nil,List.map_cons,d2];rfl;kernel_rfl))
         refine lpJ_n (n + m - (k + 1)) (by omega) ⟨_,?_,?_,k + 1,rfl,by omega,rfl,?_⟩
         rotate_left
         ·(simp +decide only [go_sem,gcD_eq,gcIds_eq,refsU,renU,refsP,renP]<;>rfl)<;>rfl
         ·rw [ha1,hb1]
          have hS:=ShS.nb (X:=[some (.row 2 (outs.map Cb.cells))]) (A:=[]) (B:=[2]) (by first|assumption|(simp;done)) (by first|assumption|(simp;done))
          simp only [List.length_append,List.map_append,List.length_cons,List.length_nil,List.map_cons,List.map_nil,List.nil_append,List.cons_append] at hS
          exact hS
        | bn h1 h2=>
         subst h2
         (repeat first|simp only [ww]|(apply xa;simp +decide only [go_sem,wnm,d1,d3,hg2,hlt,hwk,hAl,hBl,List.length_map,List.nil_append,List.cons_append,List.length_nil,List.length_cons,List.map_nil,List.map_cons,d2];rfl;kernel_rfl))
         refine lpJ_n (n + m - (k + 1)) (by omega) ⟨_,?_,?_,k + 1,rfl,by omega,rfl,?_⟩
         rotate_left
         ·(simp +decide only [go_sem,gcD_eq,gcIds_eq,refsU,renU,refsP,renP]<;>rfl)<;>rfl
         ·rw [ha1,hb1]
          have hS:=ShS.bb (X:=[some (.row 2 (outs.map Cb.cells))]) (A:=A) (B:=[2]) (by first|assumption|(simp;done)) (by first|assumption|(simp;done))
          simp only [List.length_append,List.map_append,List.length_cons,List.length_nil,List.map_cons,List.map_nil,List.nil_append,List.cons_append] at hS
          exact hS
        | nb h1 h2=>
         subst h1
         (repeat first|simp only [ww]|(apply xa;simp +decide only [go_sem,wnm,d1,d3,hg2,hlt,hwk,hAl,hBl,List.length_map,List.nil_append,List.cons_append,List.length_nil,List.length_cons,List.map_nil,List.map_cons,d2];rfl;kernel_rfl))
         refine lpJ_n (n + m - (k + 1)) (by omega) ⟨_,?_,?_,k + 1,rfl,by omega,rfl,?_⟩
         rotate_left
         ·(simp +decide only [go_sem,gcD_eq,gcIds_eq,refsU,renU,refsP,renP]<;>rfl)<;>rfl
         ·rw [ha1,hb1]
          have hS:=ShS.nb (X:=[some (.row 2 (outs.map Cb.cells))]) (A:=[]) (B:=B ++ [2]) (by first|assumption|(simp;done)) (by first|assumption|(simp;done))
          simp only [List.length_append,List.map_append,List.length_cons,List.length_nil,List.map_cons,List.map_nil,List.nil_append,List.cons_append] at hS
          exact hS
        | bb h1 h2=>
         (repeat first|simp only [ww]|(apply xa;simp +decide only [go_sem,wnm,d1,d3,hg2,hlt,hwk,hAl,hBl,List.length_map,List.nil_append,List.cons_append,List.length_nil,List.length_cons,List.map_nil,List.map_cons,d2];rfl;kernel_rfl))
         refine lpJ_n (n + m - (k + 1)) (by omega) ⟨_,?_,?_,k + 1,rfl,by omega,rfl,?_⟩
         rotate_left
         ·(simp +decide only [go_sem,gcD_eq,gcIds_eq,refsU,renU,refsP,renP]<;>rfl)<;>rfl
         ·rw [ha1,hb1]
          have hS:=ShS.bb (X:=[some (.row 2 (outs.map Cb.cells))]) (A:=A) (B:=B ++ [2]) (by first|assumption|(simp;done)) (by first|assumption|(simp;done))
          simp only [List.length_append,List.map_append,List.length_cons,List.length_nil,List.map_cons,List.map_nil,List.nil_append,List.cons_append] at hS
          exact hS
     ·obtain rfl:k = n + m:=by omega
      have d1:¬ ((n + m:Nat):Int) < ((n + m:Nat):Int):=by omega
      have hal:(aK r.l n (n + m)).length ≤ 1000:=by simp [aK];omega
      have hbl:(bK r.l n (n + m)).length ≤ 1000:=by simp [bK];omega
      have hsh:(shC n m r.l).cells = [slU (m3 (aK r.l n (n + m))),slU (m3 (bK r.l n (n + m)))]:=ofC_cells _ _
      generalize aK r.l n (n + m) = A at hS hal hA hsh
      generalize bK r.l n (n + m) = B at hS hbl hB hsh
      cases hS with
      | nn h1 h2=>
       subst h1
       subst h2
       have hc:=fun H=>ofN H
       have hmx2:outs.length + 1 ≤ 1000000000:=by omega
       (repeat first|simp only [ww]|(apply xa;simp +decide only [go_sem,wnm,d1,hc,slU_cells,slU_sto,slU_junk,hwi,List.length_map,List.length_nil,List.length_cons,List.map_nil,List.map_cons,hmx2];rfl;kernel_rfl))
       refine lpJ_n (ls.length - (i + 1)) (by omega) ⟨_,[some (.row 2 ((outs ++ [shC n m r.l]).map Cb.cells))],?_,i + 1,(outs ++ [shC n m r.l]),_,rfl,hlt,hst.symm,.inr ⟨by simp,rfl,rfl⟩,rfl⟩
       (simp +decide only [go_sem,gcD_eq,gcIds_eq,refsP,renP,slU_refs,ren_slU,renU,refsU,hsh,List.length_append,List.length_cons,List.length_nil,List.map_append,List.map_cons,List.map_nil]<;>rfl)<;>rfl
      | bn h1 h2=>
       subst h2
       have hc:=fun (t:Heap)=>ofA h1 hal hA (show HeapF ([some (.row 2 (outs.map Cb.cells))] ++ [some (.row 2 [[.slice (1 + 1) 0 A.length none,.nilslice]]),some (.row 1 (A.map u8R))] ++ t) (1 + 1) = _ from rfl)
       have hc:=hc []
       simp only [List.append_nil,List.cons_append,List.nil_append,Nat.zero_add,Nat.reduceAdd] at hc
       have hmx2:outs.length + 1 ≤ 1000000000:=by omega
       (repeat first|simp only [ww]|(apply xa;simp +decide only [go_sem,wnm,d1,hc,slU_cells,slU_sto,slU_junk,hwi,List.length_map,List.length_nil,List.length_cons,List.map_nil,List.map_cons,hmx2];rfl;kernel_rfl))
       refine lpJ_n (ls.length - (i + 1)) (by omega) ⟨_,[some (.row 2 ((outs ++ [shC n m r.l]).map Cb.cells))],?_,i + 1,(outs ++ [shC n m r.l]),_,rfl,hlt,hst.symm,.inr ⟨by simp,rfl,rfl⟩,rfl⟩
       (simp +decide only [go_sem,gcD_eq,gcIds_eq,refsP,renP,slU_refs,ren_slU,renU,refsU,hsh,List.length_append,List.length_cons,List.length_nil,List.map_append,List.map_cons,List.map_nil]<;>rfl)<;>rfl
      | nb h1 h2=>
       subst h1
       have hc:=fun (t:Heap)=>ofB h2 hbl hB (show HeapF ([some (.row 2 (outs.map Cb.cells))] ++ [some (.row 2 [[.nilslice,.slice (1 + 1) 0 B.length none]]),some (.row 1 (B.map u8R))] ++ t) (1 + 1) = _ from rfl)
       have hc:=hc []
       simp only [List.append_nil,List.cons_append,List.nil_append,Nat.zero_add,Nat.reduceAdd] at hc
       have hmx2:outs.length + 1 ≤ 1000000000:=by omega
       (repeat first|simp only [ww]|(apply xa;simp +decide only [go_sem,wnm,d1,hc,slU_cells,slU_sto,slU_junk,hwi,List.length_map,List.length_nil,List.length_cons,List.map_nil,List.map_cons,hmx2];rfl;kernel_rfl))
       refine lpJ_n (ls.length - (i + 1)) (by omega) ⟨_,[some (.row 2 ((outs ++ [shC n m r.l]).map Cb.cells))],?_,i + 1,(outs ++ [shC n m r.l]),_,rfl,hlt,hst.symm,.inr ⟨by simp,rfl,rfl⟩,rfl⟩
       (simp +decide only [go_sem,gcD_eq,gcIds_eq,refsP,renP,slU_refs,ren_slU,renU,refsU,hsh,List.length_append,List.length_cons,List.length_nil,List.map_append,List.map_cons,List.map_nil]<;>rfl)<;>rfl
      | bb h1 h2=>
       have hc:=fun (t:Heap)=>ofAB (show 1 + 1 ≠ 1 + 2 by omega) h1 hal hA h2 hbl hB (show HeapF ([some (.row 2 (outs.map Cb.cells))] ++ [some (.row 2 [[.slice (1 + 1) 0 A.length none,.slice (1 + 2) 0 B.length none]]),some (.row 1 (A.map u8R)),some (.row 1 (B.map u8R))] ++ t) (1 + 1) = _ from rfl) rfl
       have hc:=hc []
       simp only [List.append_nil,List.cons_append,List.nil_append,Nat.zero_add,Nat.reduceAdd] at hc
       have hmx2:outs.length + 1 ≤ 1000000000:=by omega
       (repeat first|simp only [ww]|(apply xa;simp +decide only [go_sem,wnm,d1,hc,slU_cells,slU_sto,slU_junk,hwi,List.length_map,List.length_nil,List.length_cons,List.map_nil,List.map_cons,hmx2];rfl;kernel_rfl))
       refine lpJ_n (ls.length - (i + 1)) (by omega) ⟨_,[some (.row 2 ((outs ++ [shC n m r.l]).map Cb.cells))],?_,i + 1,(outs ++ [shC n m r.l]),_,rfl,hlt,hst.symm,.inr ⟨by simp,rfl,rfl⟩,rfl⟩
       (simp +decide only [go_sem,gcD_eq,gcIds_eq,refsP,renP,slU_refs,ren_slU,renU,refsU,hsh,List.length_append,List.length_cons,List.length_nil,List.map_append,List.map_cons,List.map_nil]<;>rfl)<;>rfl
  ·obtain rfl:i = ls.length:=by omega
   have c1:¬ (ls.length:Int) < ls.length:=by omega
   rw [List.take_length] at ho
   rw [← ho]
   have hol:outs.length = ls.length:=by rw [ho];simp
   rcases hO with ⟨h0,rfl,rfl⟩|⟨hne,rfl,rfl⟩
   ·rw [h0]
    (repeat first|simp only [ww]|(apply xa;simp +decide only [go_sem,c1,List.length_map];rfl;kernel_rfl))
    refine fqE_n (vs:=[.nilslice]) (r:=(_,_)) (by simp +decide only [go_sem]) (by simp +decide only [go_sem,finish,resS,slF]<;>rfl) rfl
   ·(repeat first|simp only [ww]|(apply xa;simp +decide only [go_sem,c1,List.length_map];rfl;kernel_rfl))
    refine fqE_r (vs:=[.slice 0 0 outs.length none]) (r:=(_,_)) (by simp +decide only [go_sem]) ?_ rfl
    have hrs:resS outs = .islice (outs.map Cb.cells) none:=by
     cases outs with
     | nil=>exact absurd rfl hne
     | cons a l=>rfl
    have hf:∀ m d,frzR m d (outs.map Cb.cells) = some (outs.map Cb.cells):=fun m d=>frzR_flat m d (flatP outs)
    have ht:List.take outs.length (outs.map Cb.cells) = outs.map Cb.cells:=List.take_of_length_le (by simp)
    simp +decide only [go_sem,finish,hrs,hf,ht,List.length_map]<;>rfl
end Go.KInst
