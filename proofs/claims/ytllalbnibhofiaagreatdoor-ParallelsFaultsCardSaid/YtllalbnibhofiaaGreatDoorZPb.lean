/- Part of a proof. No condition. -/
import Derived.Test.YtllalbnibhofiaaGreatDoorZPa
import Derived.Test.YtllalbnibhofiaaGreatDoorPcC
import Derived.Test.YtllalbnibhofiaaGreatDoorAxF
set_option linter.unusedSimpArgs false
set_option linter.unusedVariables false
namespace Go.ZInst
open Go.Proofs Go.Ax Go.Pc
set_option maxRecDepth 100000
theorem c1e (ca cb:Rep) (a b:List W) (hab:a.length ≤ b.length) (hl:a.length < 1000000):f7x L.env Mf 25 [sl ca (a.map W.enc),sl cb (b.map W.enc)] [] = some (u64 (b86 a b 0),[]):=by
 rw [← c8z a b 0 hab]
 (refine sv Tryz.f25 ?_;simp only [Tryz.f25,gS])
 (repeat first|simp only [ww]|(apply xa;simp +decide only [go_sem];rfl;kernel_rfl))
 refine a0w (σ:=Nat) kp25_0 (fun i=>[(0,sl ca (a.map W.enc)),(1,sl cb (b.map W.enc)),(4,u64 (b86 (a.take i) (b.take i) 0)),(9,.int .i64 a.length),(10,.int .i64 i)]) (fun _=>[]) (fun i=>a.length - i) (fun i=>i ≤ a.length) 0 ?_ (Nat.zero_le _) ?_
 ·have e:b86 (a.take 0) (b.take 0) 0 = BitVec.ofInt 64 0:=by rw [List.take_zero];rfl
  (simp +decide only [go_sem,a01,a00,e]<;>rfl)<;>rfl
 ·intro i hi
  by_cases hlt:i < a.length
  ·obtain ⟨x,hx⟩:∃ x,a[i]? = some x:=⟨_,List.getElem?_eq_getElem hlt⟩
   obtain ⟨y,hy⟩:∃ y,b[i]? = some y:=⟨_,List.getElem?_eq_getElem (by omega)⟩
   have c1:(i:Int) < a.length:=by omega
   have hib:i < b.length:=by omega
   have hw:=wI1 (n:=i) (by omega)
   have hs:=c8y hx hy
   (repeat first|simp only [ww]|(apply xa;simp +decide only [go_sem,c1,hlt,hx,hy,hib,hw];rfl;kernel_rfl))
   refine a1w (i + 1) ?_ (by omega) (by omega)
   rw [hs]
   (simp +decide only [go_sem,a01,a00,f6u]<;>rfl)
  ·obtain rfl:i = a.length:=by omega
   have c1:¬ (a.length:Int) < a.length:=by omega
   rw [List.take_length]
   (repeat first|simp only [ww]|(apply xa;simp +decide only [go_sem,c1];rfl;kernel_rfl))
   (apply f6w;simp +decide only [go_sem]<;>rfl)
theorem b7u {d:Bool} (H:a04) (ca cb:Rep) (a b:List W) (hab:a.length ≤ b.length) (hl:a.length < 1000000):a0e L.env d (f7x L.env Mf) (.func (.func 25) [] []) [sl ca (a.map W.enc),sl cb (b.map W.enc)] H = some (u64 (b86 a b 0),H,[]):=
 a03 (by kernel_rfl) (by kernel_rfl) rfl (by simp only [List.nil_append,List.append_nil,a08,go_sem]) (c1e ca cb a b hab hl) rfl
theorem b69 {d:Bool} {H:a04} {b:Nat} (k:Nat) (hk:k < 16) (l:List W) (hl:l.length < 1000) {n:Int} (hn:n = k) {m:Nat} (hm:m = l.length) (hb:a02 H b = some (.row 2 (l.map W.enc))):a0e L.env d (f7x L.env Mf) (.func (.func 46) [] []) [.int .u8 n,.slice b 0 m (some m)] H = some (.agg (a44 k l).enc,H,[b]):=by
 subst hn;subst hm
 exact a2g (fs:=[]) (cs:=[]) (ar:=[.int .u8 k,.slice b 0 l.length (some l.length)]) (by kernel_rfl) (by kernel_rfl) rfl hb (a0t (a9i l)) (FlatO.row (a9i l)) rfl (args':=[.int .u8 k,.slice 0 0 l.length (some l.length)]) (by simp only [List.nil_append,List.append_nil,List.map_cons,List.map_nil,a2b];rfl) (d2o k hk l hl) rfl
theorem c59 (nodes:List Nd) (f:Flt) (hf:FltOk nodes f) (hm:f.model ≠ 0) (r:Rep) (good:List W) (hg:good.length = nodes.length):f7x L.env Mf 49 [.agg f.enc,sl r (good.map W.enc)] [] = some (.agg (a15 a2m good f).enc,[]):=by
 have hn:=hf.node
 have ho:=hf.other
 obtain ⟨a,ha⟩:∃ a,good[f.node]? = some a:=⟨_,List.getElem?_eq_getElem (by omega)⟩
 obtain ⟨b,hb⟩:∃ b,good[f.other]? = some b:=⟨_,List.getElem?_eq_getElem (by omega)⟩
 have hnl:f.node < good.length:=by omega
 have hol:f.other < good.length:=by omega
 have hmm:f.model = 2 ∨ f.model = 3:=by rcases hf.model with e|e|e;exact absurd e hm;exact .inl e;exact .inr e
 rcases hmm with e|e
 ·have c1:¬ (((2:Nat):Int) = 3):=by decide
  by_cases hv:f.value = 0
  ·have hF:a15 a2m good f = a44 5 [a,b]:=by
    unfold a15;rw [if_neg hm,if_neg (by omega),if_pos hv];simp [List.getD,ha,hb];rfl
   rw [hF]
   have he:=fun X Y=>b69 (d:=true) (H:=[X,Y,some (.row 2 ([a,b].map W.enc))]) (b:=2) 5 (by omega) [a,b] (by simp) (n:=5) rfl (m:=2) rfl rfl
   generalize a44 5 [a,b] = v at he
   simp only [List.map_cons,List.map_nil,W.enc] at he
   simp only [Flt.enc,e,hv]
   (refine sv Tryz.f49 ?_;simp only [Tryz.f49,gS])
   (repeat first|simp only [ww]|(apply xa;simp +decide only [go_sem,ha,hb,hnl,hol,he];rfl;kernel_rfl))
   (apply f6w;simp +decide only [go_sem]<;>rfl)
  ·have cv:¬ (f.value:Int) = 0:=by omega
   have hF:a15 a2m good f = a44 7 [a,b]:=by
    unfold a15;rw [if_neg hm,if_neg (by omega),if_neg hv];simp [List.getD,ha,hb];rfl
   rw [hF]
   have he:=fun X Y=>b69 (d:=true) (H:=[X,Y,some (.row 2 ([a,b].map W.enc))]) (b:=2) 7 (by omega) [a,b] (by simp) (n:=7) rfl (m:=2) rfl rfl
   generalize a44 7 [a,b] = v at he
   simp only [List.map_cons,List.map_nil,W.enc] at he
   simp only [Flt.enc,e]
   (refine sv Tryz.f49 ?_;simp only [Tryz.f49,gS])
   (repeat first|simp only [ww]|(apply xa;simp +decide only [go_sem,ha,hb,hnl,hol,he,cv];rfl;kernel_rfl))
   (apply f6w;simp +decide only [go_sem]<;>rfl)
 ·have hF:a15 a2m good f = b:=by
   unfold a15;rw [if_neg hm,if_pos e];simp [List.getD,hb]
  rw [hF]
  simp only [Flt.enc,e]
  (refine sv Tryz.f49 ?_;simp only [Tryz.f49,gS])
  (repeat first|simp only [ww]|(apply xa;simp +decide only [go_sem,hb,hol];rfl;kernel_rfl))
  (apply f6w;simp +decide only [go_sem]<;>rfl)
theorem b9u {d:Bool} (H:a04) (nodes:List Nd) (f:Flt) (hf:FltOk nodes f) (hm:f.model ≠ 0) (r:Rep) (good:List W) (hg:good.length = nodes.length):a0e L.env d (f7x L.env Mf) (.func (.func 49) [] []) [.agg f.enc,sl r (good.map W.enc)] H = some (.agg (a15 a2m good f).enc,H,[]):=
 a03 (by kernel_rfl) (by kernel_rfl) rfl (by simp only [List.nil_append,List.append_nil,a08,a10,Flt.enc,go_sem]) (c59 nodes f hf hm r good hg) rfl
/- one fault in all lanes -/
theorem c1y {d:Bool} (H:a04) (c:Cir) (hc:c.wf) (ord:List Nat) (ho:∀ n ∈ ord,n < c.nodes.length) (hol:ord.length ≤ 1000) (net pin:AV) (g:Hk W) (h0:NetF c.nodes.length net g.net) (h2:PinF c.nodes.length pin g.pin) (ri rs:Rep) (vi vs:List W) (hvi:vi.length = (kinds c.nodes 0).length) (hvs:vs.length = (kinds c.nodes 14).length) :
 a0e L.env d (f7x L.env Mf) (.func (.func 23) [] []) [.agg (b0u c ord net pin),sl ri (vi.map W.enc),sl rs (vs.map W.enc)] H = some (.tuple [.islice (((a1p c ord).nets a2m g vi vs).map W.enc) (some c.nodes.length),sl none (((a1p c ord).seen a2m g ((a1p c ord).nets a2m g vi vs)).map W.enc)],H,[]):=
 a03 (by kernel_rfl) (by kernel_rfl) rfl (by simp only [List.nil_append,List.append_nil,a08,a10,a9u c ord net pin h0.flat h2.flat,go_sem]) (e0e c hc ord ho hol net pin g h0 h2 ri rs vi vs hvi hvs) (by simp only [a72,a08,b2x,a2i,a1z,List.append_nil])
open Go.Proofs Go.Ax Go.Pc
set_option maxRecDepth 100000
open Go.Proofs Go.Ax Go.Pc
set_option maxRecDepth 100000
open Go.Proofs Go.Ax Go.Pc
set_option maxRecDepth 100000
theorem c8h (l:List Flt):FlatR (l.map Flt.enc):=FlatR.map fun _=>rfl
theorem b6v (c:Cir) (ord:List Nat) (h:Hk W) (nets:List W):((a1p c ord).seen a2m h nets).length = c.outs.length + (kinds c.nodes 14).length:=by
 show (b2s a2m c.nodes h c.outs (kinds c.nodes 14) nets).length = _
 unfold b2s;simp
end Go.ZInst
