/- Part of a proof. No condition. -/
import Derived.Test.YtlldffjabagdbaaGreatDoorTDa
import Derived.Test.YtlldffjabagdbaaGreatDoorAxF
set_option linter.unusedSectionVars false
set_option linter.unusedSimpArgs false
set_option linter.unusedVariables false
namespace Go.TInst
open Go.Proofs Go.Ax Go.Pc
set_option maxRecDepth 100000
structure DCalls (c:Cir) (p:Pat) (D:Ded):Prop where
 lines:∃ V,∀ (d:Bool) (H:a03),a0g L.env d (sem L.env Mf) (.func (.func 10) [] []) [.agg [sl c.nc (c.nodes.map Nd.enc),sl c.mc (c.names.map a1n),.nilslice,sl c.oc (c.outs.map a0k)]] H = some (.tuple [V,.int .i64 0],H,[])
 fck:∀ f ∈ D.fs,∀ (d:Bool) (H:a03),a0g L.env d (sem L.env Mf) (.func (.func 75) [] []) [.agg [sl c.nc (c.nodes.map Nd.enc),sl c.mc (c.names.map a1n),.nilslice,sl c.oc (c.outs.map a0k)],.agg f.enc] H = some (.int .i64 0,H,[])
 sck:∀ (d:Bool) (H:a03),a0g L.env d (sem L.env Mf) (.func (.func 78) [] []) [.agg [sl c.nc (c.nodes.map Nd.enc),sl c.mc (c.names.map a1n),.nilslice,sl c.oc (c.outs.map a0k)],.agg [sl p.ic (p.ins.map u8R),sl p.sc (p.sts.map u8R)]] H = some (.int .i64 0,H,[])
 run:∃ V1 V2,AV.storable V1 = true ∧ AV.storable V2 = true ∧ ∀ (d:Bool) (H:a03),a0g L.env d (sem L.env Mf) (.func (.func 9) [] []) [.agg [sl c.nc (c.nodes.map Nd.enc),sl c.mc (c.names.map a1n),.nilslice,sl c.oc (c.outs.map a0k)],.agg [sl p.ic (p.ins.map u8R),sl p.sc (p.sts.map u8R)]] H = some (.tuple [.agg [V1,V2],.islice (D.G.map u8R) (some c.nodes.length),.int .i64 0],H,[])
 ord:∀ (d:Bool) (H:a03),a0g L.env d (sem L.env Mf) (.func (.func 21) [] []) [.agg [sl c.nc (c.nodes.map Nd.enc),sl c.mc (c.names.map a1n),.nilslice,sl c.oc (c.outs.map a0k)]] H = some (.tuple [.islice (D.ord.map a0k) (some c.nodes.length),.int .i64 0],H,[])
 b1:∀ v ∈ p.ins,v ≤ 1
 b2:∀ v ∈ p.sts,v ≤ 1
 l1:p.ins.length < 1000000
 l2:p.sts.length < 1000000
structure Mach0 (c:Cir) (D:Ded):Prop where
 nodes:D.nodes = c.nodes
 ok:D.ok
 fl:D.fs.length ≤ 1000
 nl:c.nodes.length ≤ 1000
 pos:0 < c.nodes.length
 il:∀ x ∈ c.nodes,x.ins.length ≤ 16
 kd:∀ x ∈ c.nodes,x.kind ≤ 14
section
variable {c:Cir} {p:Pat} {D:Ded} (M:Mach0 c D) (C:DCalls c p D) {rl:Rep}
include M
theorem Mach0.plain:∀ x ∈ c.nodes,x.kind ≠ 12 ∧ x.kind ≠ 13:=by
 intro x hx
 obtain ⟨n,hn⟩:=List.mem_iff_getElem?.1 hx
 have hnl:=(List.getElem?_eq_some_iff.1 hn).1
 have h:=M.ok.plain n (by rw [M.nodes];exact hnl)
 rw [M.nodes,a18 hn] at h
 exact h
include C
theorem c9y:sem L.env Mf 67 [.agg [sl c.nc (c.nodes.map Nd.enc),sl c.mc (c.names.map a1n),.nilslice,sl c.oc (c.outs.map a0k)],sl rl (D.fs.map Flt.enc),.agg [sl p.ic (p.ins.map u8R),sl p.sc (p.sts.map u8R)]] [] = some (.int .i64 0,[]):=by
 obtain ⟨V,hl⟩:=C.lines
 have hp:=fun (d:Bool) (H:a03)=>c2r (d:=d) H c (by have:=M.nl;omega) M.plain
 have hs:=C.sck
 have hf:=fun (d:Bool) (H:a03)=>c9x (d:=d) H p C.b1 C.b2 C.l1 C.l2
 have hfl:=M.fl
 have hnl:=M.nl
 simp only [Cir.enc] at hp
 simp only [Pat.enc] at hf
 have hmul:c.nodes.length * D.fs.length ≤ 1000 * 1000:=Nat.mul_le_mul hnl hfl
 have hwm:IntKind.i64.wrap ((c.nodes.length:Int) * (D.fs.length:Int)) = ((c.nodes.length * D.fs.length:Nat):Int):=by rw [← Int.natCast_mul];exact w64 (by omega) (by omega)
 have d1:¬ (65536:Int) < D.fs.length:=by omega
 have d2:¬ (1048576:Int) < ((c.nodes.length * D.fs.length:Nat):Int):=by omega
 (refine sv Tryz.f67 ?_;simp only [Tryz.f67,gS])
 (repeat first|simp only [ww]|(apply xa;simp +decide only [go_sem,hl,hp,d1,d2,hwm];rfl;kernel_rfl))
 refine a0x (σ:=Nat) kp67_0 (fun i=>[(3,.ptr 0 0 0),(5,.ptr 1 0 0),(36,sl rl (D.fs.map Flt.enc)),(37,.int .i64 D.fs.length),(38,.int .i64 i)])
  (fun _=>[some (.row 4 [[sl c.nc (c.nodes.map Nd.enc),sl c.mc (c.names.map a1n),.nilslice,sl c.oc (c.outs.map a0k)]]),some (.row 2 [[sl p.ic (p.ins.map u8R),sl p.sc (p.sts.map u8R)]])]) (fun i=>D.fs.length - i) (fun i=>i ≤ D.fs.length) 0 ?_ (Nat.zero_le _) ?_
 ·(simp +decide only [go_sem,a02,a00]<;>rfl)<;>rfl
 ·intro i hi
  by_cases hlt:i < D.fs.length
  ·obtain ⟨f,hfi⟩:∃ f,D.fs[i]? = some f:=⟨_,z9e hlt⟩
   have hfm:=List.mem_of_getElem? hfi
   have hck:=C.fck f hfm
   simp only [Flt.enc] at hck
   have hm0:(f.model:Int) = 0:=by have:=(M.ok.flt f hfm).1;omega
   simp only [hm0] at hck
   have c1:(i:Int) < D.fs.length:=by omega
   have hw:=wI1 (n:=i) (by omega)
   (repeat first|simp only [ww]|(apply xa;simp +decide only [go_sem,c1,hlt,hfi,hck,hm0,hw,Flt.enc];rfl;kernel_rfl))
   refine a1y (i + 1) ?_ (by omega) (by omega)
   (simp +decide only [go_sem,a02,a00]<;>rfl)<;>rfl
  ·obtain rfl:i = D.fs.length:=by omega
   have c1:¬ (D.fs.length:Int) < D.fs.length:=by omega
   (repeat first|simp only [ww]|(apply xa;simp +decide only [go_sem,c1,hs,hf];rfl;kernel_rfl))
   (apply fqb;simp +decide only [go_sem]<;>rfl)
theorem c2t {d:Bool} (H:a03):a0g L.env d (sem L.env Mf) (.func (.func 67) [] []) [.agg [sl c.nc (c.nodes.map Nd.enc),sl c.mc (c.names.map a1n),.nilslice,sl c.oc (c.outs.map a0k)],sl rl (D.fs.map Flt.enc),.agg [sl p.ic (p.ins.map u8R),sl p.sc (p.sts.map u8R)]] H = some (.int .i64 0,H,[]):=
 a04 (by kernel_rfl) (by kernel_rfl) rfl (by simp only [List.nil_append,List.append_nil,go_sem]) (c9y M C) rfl
end
structure BegSt (c:Cir) (D:Ded) (rl:Rep) (LS:List (List AV)) (H:a03) (mb lb pb:Nat) (ids:Nat → Nat) (es:List ((Nat × Int) × List Nat)):Prop where
 mach:a01 H mb = some (.row 8 [[sl c.nc (c.nodes.map Nd.enc),sl c.mc (c.names.map a1n),.nilslice,sl c.oc (c.outs.map a0k),sl rl (D.fs.map Flt.enc),.islice (D.G.map u8R) (some c.nodes.length),.slice lb 0 c.nodes.length (some c.nodes.length),.map pb]])
 ls:a01 H lb = some (.row 1 LS)
 m:MSm a3u H pb ids es
structure LsOk (c:Cir) (LS:List (List AV)):Prop where
 flat:FlatR LS
 len:LS.length = c.nodes.length
 ne:∀ l:List Nat,LS ≠ l.map nR
section
variable {c:Cir} {D:Ded} {rl:Rep} {LS:List (List AV)} (hLS:LsOk c LS) {H H1:a03} {mb lb pb:Nat} {ids:Nat → Nat} {es:List ((Nat × Int) × List Nat)} (h:BegSt c D rl LS H mb lb pb ids es)
include h
theorem BegSt.mrefs:a15 (a01 H mb) = [lb,pb]:=by
 rw [h.mach]
 simp only [a15,List.flatMap_cons,List.flatMap_nil,List.append_nil,go_sem]
theorem BegSt.ml:mb ≠ lb:=by
 intro e;have h1:=h.mach;rw [e,h.ls] at h1;cases h1
include hLS
theorem BegSt.mv {R:Nat → Prop} {π:Nat → Option Nat} (hm:Mv H R π H1) (hR:R mb):∃ mb' lb' pb' ids',π mb = some mb' ∧ BegSt c D rl LS H1 mb' lb' pb' ids' es:=by
 have hr:=h.mrefs
 have hlR:R lb:=hm.closed mb hR lb (by rw [hr];simp)
 have hpR:R pb:=hm.closed mb hR pb (by rw [hr];simp)
 obtain ⟨mb',e1⟩:=hm.here mb hR
 obtain ⟨lb',e2⟩:=hm.here lb hlR
 obtain ⟨pb',ids',e3,e4,hM⟩:=h.m.mv b07 hm hpR
 refine ⟨mb',lb',pb',ids',e1,?_,?_,hM⟩
 ·rw [hm.heap _ _ hR e1,h.mach]
  simp only [Option.map_some,a0p,List.map_cons,List.map_nil,go_sem,e2,e3]
 ·rw [hm.heap _ _ hlR e2,h.ls]
  simp only [Option.map_some,a0p,a0m π hLS.flat]
theorem BegSt.gc {keep:List Nat} {F:Frm} (X:List Nat) (hX:∀ b ∈ X,a15 (a01 H b) = []) (hF:a0j ((a2e keep F).map (·.2)) = X ++ [mb]) (hn:es.length < 100000) (hXl:X.length < 1000) :
 ∃ π H1 mb' lb' pb' ids',gcD 0 keep F H = some (b92 π (a2e keep F),H1) ∧ π mb = some mb' ∧ BegSt c D rl LS H1 mb' lb' pb' ids' es ∧ ∀ b ∈ X,∃ b',π b = some b' ∧ a01 H1 b' = (a01 H b).map (a0p π):=by
 have hr:=h.mrefs
 have hl0:a15 (a01 H lb) = []:=by rw [h.ls];exact a0s hLS.flat
 have hcost:=h.m.cost b07
 have hX0:(X.map fun b=>(a15 (a01 H b)).length).sum = 0:=b2p _ fun b hb=>by rw [hX b hb]
 obtain ⟨R,π,H1,g1,g2,_⟩:=c92 (m:=0) (keep:=keep) (F:=F) (H:=H) (Nat.zero_le _) (X ++ (mb :: lb :: MSm.blocks pb ids es.length)) (fun b hb=>by
  rw [hF] at hb;simp only [List.mem_append,List.mem_cons,List.not_mem_nil,or_false] at hb ⊢;rcases hb with hb|rfl
  ·exact .inl hb
  ·exact .inr (.inl rfl)) (fun b hb=>absurd hb (Nat.not_lt_zero b)) (by
  intro b hb d hd
  simp only [List.mem_append,List.mem_cons] at hb ⊢
  rcases hb with hb|rfl|rfl|hb
  ·rw [hX b hb] at hd;cases hd
  ·rw [hr] at hd
   simp only [List.mem_cons,List.not_mem_nil,or_false] at hd
   rcases hd with rfl|rfl
   ·exact .inr (.inr (.inl rfl))
   ·exact .inr (.inr (.inr (MSm.mem_blocks.2 (.inl rfl))))
  ·rw [hl0] at hd;cases hd
  ·exact .inr (.inr (.inr (h.m.closed b07 b hb d hd)))) (by
  rw [hF]
  simp only [List.take_zero,List.flatMap_nil,List.length_nil,List.length_append,List.length_cons,List.map_append,List.map_cons,List.sum_append,List.sum_cons,hX0,hr,hl0]
  omega)
 obtain ⟨mb',lb',pb',ids',e1,hB⟩:=h.mv hLS g2.mv (g2.refs mb (by rw [hF];simp))
 refine ⟨π,H1,mb',lb',pb',ids',g1,e1,hB,fun b hb=>?_⟩
 obtain ⟨b',eb⟩:=g2.here b (g2.refs b (by rw [hF];simp [hb]))
 exact ⟨b',eb,g2.heap b b' eb⟩
theorem BegSt.apart:mb ≠ pb ∧ lb ≠ pb ∧ (∀ j,j < es.length → mb ≠ ids j ∧ lb ≠ ids j):=by
 obtain ⟨a1,a2⟩:=h.m.other h.mach (fun l e=>absurd e (by omega))
 obtain ⟨b1,b2⟩:=h.m.other h.ls (fun l _=>hLS.ne l)
 exact ⟨a1,b1,fun j hj=>⟨a2 j hj,b2 j hj⟩⟩
theorem BegSt.add (x:Nat × Int) (i n:Nat) (hn:H.length ≤ n) (h1:a01 H1 pb = some (MSl.obj a3u ids es x n)) (h2:a01 H1 n = some (.row 1 ((atE x es ++ [i]).map nR)))
 (h3:∀ d,d < H.length → d ≠ pb → (∀ j,a94 x (es.map (·.1)) = some j → d ≠ ids j) → a01 H1 d = a01 H d):∃ ids',BegSt c D rl LS H1 mb lb pb ids' (d0s es x i):=by
 obtain ⟨ids',hM,_,_⟩:=h.m.add x i n hn h1 h2 h3
 obtain ⟨a1,a2,a3⟩:=h.apart hLS
 have hj:∀ j,a94 x (es.map (·.1)) = some j → j < es.length:=fun j hj=>by simpa using (List.getElem?_eq_some_iff.1 (a4a hj)).1
 refine ⟨ids',?_,?_,hM⟩
 ·rw [h3 mb (a0z h.mach) a1 (fun j e=>(a3 j (hj j e)).1),h.mach]
 ·rw [h3 lb (a0z h.ls) a2 (fun j e=>(a3 j (hj j e)).2),h.ls]
omit hLS in
theorem BegSt.more {L:a03}:BegSt c D rl LS (H ++ L) mb lb pb ids es:=
 ⟨by rw [a3q (eq_true (a0z h.mach)),h.mach],by rw [a3q (eq_true (a0z h.ls)),h.ls],h.m.more⟩
theorem BegSt.frz (n:Nat):a5c (a01 H) 0 (n + 4) (.ptr mb 0 0) = some (.iptr [sl c.nc (c.nodes.map Nd.enc),sl c.mc (c.names.map a1n),.nilslice,sl c.oc (c.outs.map a0k),sl rl (D.fs.map Flt.enc),.islice (D.G.map u8R) (some c.nodes.length),.islice LS (some c.nodes.length),a1r a3u es]):=by
 have hm:a5c (a01 H) 0 (n + 3) (.map pb) = some (a1r a3u es):=h.m.frz b07 (n + 1)
 have hl:a5c (a01 H) 0 (n + 3) (.slice lb 0 c.nodes.length (some c.nodes.length)) = some (.islice LS (some c.nodes.length)):=by
  rw [a75 (eq_true (by omega:0 < n + 3)),h.ls]
  simp only [b0w,a0h,List.drop_zero,Nat.zero_add,hLS.len]
  rw [decide_eq_true (Nat.le_refl _),cond_true,List.take_of_length_le (by rw [hLS.len];exact Nat.le_refl _),a1g _ _ hLS.flat]
 rw [d38 (eq_true (by omega:0 < n + 4)),h.mach]
 simp only [b0w,a0h,List.getElem?_cons_zero,List.drop_zero]
 have kb:∀ b:Nat,decide (b < 0) = false:=fun b=>decide_eq_false (Nat.not_lt_zero _)
 simp only [a74,b8g,e20,c0i,c5t,a8q,c9c,kb,cond_false,a0h,Nat.add_succ_sub_one,hl,hm]
end
set_option maxHeartbeats 200000000
structure EsOk (D:Ded) (i:Nat) (es:List ((Nat × Int) × List Nat)):Prop where
 at':∀ x:Nat × Int,atE x es = (List.range i).filter (D.at' x.1 x.2)
 len:es.length ≤ i
theorem EsOk.next {D:Ded} {i:Nat} {es:List ((Nat × Int) × List Nat)} (h:EsOk D i es) {f:Flt} (hf:D.ft i = f):EsOk D (i + 1) (d0s es (f.node,f.pin) i):=by
 have hl:(d0s es (f.node,f.pin) i).length ≤ es.length + 1:=by unfold d0s;split<;>simp
 have:=h.len
 refine ⟨fun x=>?_,by omega⟩
 rw [d8m,List.range_succ,List.filter_append,h.at' x]
 have e:D.at' x.1 x.2 i = decide (x = (f.node,f.pin)):=by
  unfold Ded.at'
  rw [hf,Bool.eq_iff_iff,Bool.and_eq_true,decide_eq_true_eq,decide_eq_true_eq,decide_eq_true_eq]
  exact ⟨fun ⟨a,b⟩=>Prod.ext a.symm b.symm,fun h=>by rw [h];exact ⟨rfl,rfl⟩⟩
 by_cases hx:x = (f.node,f.pin)
 ·rw [if_pos hx,List.filter_cons,e,decide_eq_true hx];rfl
 ·rw [if_neg hx,List.filter_cons,e,decide_eq_false hx];simp
def a9r (c:Cir) (D:Ded) (k:Nat):List (List AV):=(List.range c.nodes.length).map fun m=>[bif (D.ord.take k).contains m then .iset (D.dset m) else .nilmap]
theorem b83 (c:Cir) (D:Ded) (k:Nat) (hp:0 < c.nodes.length):LsOk c (a9r c D k):=by
 refine ⟨fun r hr=>?_,by simp [a9r],fun l e=>?_⟩
 ·obtain ⟨m,_,rfl⟩:=List.mem_map.1 hr
  cases (D.ord.take k).contains m<;>rfl
 ·have h0:=congrArg (fun l:List (List AV)=>l[0]?) e
  unfold a9r at h0
  simp only [List.getElem?_map,List.getElem?_range hp,Option.map_some] at h0
  cases l with
  | nil=>simp at h0
  | cons a r=>
   simp only [List.getElem?_cons_zero,Option.map_some,Option.some.injEq,nR] at h0
   cases hc:(D.ord.take k).contains 0<;>rw [hc] at h0<;>simp at h0
theorem b2w (c:Cir) (D:Ded) (k m:Nat) (hm:m < c.nodes.length):(a9r c D k)[m]? = some [bif (D.ord.take k).contains m then .iset (D.dset m) else .nilmap]:=by
 unfold a9r;rw [List.getElem?_map,List.getElem?_range hm];rfl
theorem e1m (c:Cir) (D:Ded):List.replicate c.nodes.length [AV.nilmap] = a9r c D 0:=by
 unfold a9r
 simp only [List.take_zero]
 rw [show (fun m:Nat=>[bif ([]:List Nat).contains m then AV.iset (D.dset m) else AV.nilmap]) = fun _=>[AV.nilmap] from rfl]
 rw [List.map_const',List.length_range]
theorem d2b (c:Cir) (D:Ded) (k n:Nat) (hk:D.ord[k]? = some n) (hn:n < c.nodes.length):(a9r c D k).set n [.iset (D.dset n)] = a9r c D (k + 1):=by
 apply List.ext_getElem?
 intro m
 rw [List.getElem?_set]
 by_cases hm:m < c.nodes.length
 ·rw [b2w c D (k + 1) m hm,b2w c D k m hm,b78 hk]
  by_cases h:n = m
  ·subst h;rw [if_pos rfl,if_pos (by simp [a9r,hn])];simp
  ·rw [if_neg h,decide_eq_false (fun e=>h e.symm),Bool.or_false]
 ·have h1:(a9r c D (k + 1))[m]? = none:=List.getElem?_eq_none (by simp [a9r];omega)
  have h2:(a9r c D k)[m]? = none:=List.getElem?_eq_none (by simp [a9r];omega)
  rw [h1,h2]
  by_cases h:n = m
  ·omega
  ·rw [if_neg h]
section
variable {c:Cir} {p:Pat} {D:Ded} (M:Mach0 c D) (C:DCalls c p D) {rl:Rep}
include M C
theorem d3z:∃ r:AV × a03,(∃ es,EsOk D D.fs.length es ∧ r = (.tuple [.iptr [sl c.nc (c.nodes.map Nd.enc),sl c.mc (c.names.map a1n),.nilslice,sl c.oc (c.outs.map a0k),sl rl (D.fs.map Flt.enc),.islice (D.G.map u8R) (some c.nodes.length),.islice (a9r c D c.nodes.length) (some c.nodes.length),a1r a3u es],.int .i64 0],[])) ∧ sem L.env Mf 30 [.agg [sl c.nc (c.nodes.map Nd.enc),sl c.mc (c.names.map a1n),.nilslice,sl c.oc (c.outs.map a0k)],sl rl (D.fs.map Flt.enc),.agg [sl p.ic (p.ins.map u8R),sl p.sc (p.sts.map u8R)]] [] = some r:=by
 have hck:=fun (d:Bool) (H:a03)=>c2t (rl:=rl) (d:=d) M C H
 obtain ⟨V1,V2,hs1,hs2,hrun⟩:=C.run
 have hord:=C.ord
 have hfl:=M.fl
 have hnl:=M.nl
 have hrm:c.nodes.length ≤ 1000000000:=by omega
 have hCf:∀ π:Nat → Option Nat,a0p π (.row 4 [[sl c.nc (c.nodes.map Nd.enc),sl c.mc (c.names.map a1n),.nilslice,sl c.oc (c.outs.map a0k)]]) = .row 4 [[sl c.nc (c.nodes.map Nd.enc),sl c.mc (c.names.map a1n),.nilslice,sl c.oc (c.outs.map a0k)]]:=fun π=>by simp +decide only [go_sem]
 have hCr:a15 (some (.row 4 [[sl c.nc (c.nodes.map Nd.enc),sl c.mc (c.names.map a1n),.nilslice,sl c.oc (c.outs.map a0k)]])) = []:=by simp +decide only [go_sem]
 obtain ⟨dd,hd,hz1⟩:=e55
 have head:∀ (i cb mb lb pb:Nat) (ids:Nat → Nat) (es:List ((Nat × Int) × List Nat)) (H2:a03),i ≤ D.fs.length → BegSt c D rl (a9r c D 0) H2 mb lb pb ids es → a01 H2 cb = some (.row 4 [[sl c.nc (c.nodes.map Nd.enc),sl c.mc (c.names.map a1n),.nilslice,sl c.oc (c.outs.map a0k)]]) → EsOk D i es → ∀ F1:Frm,a0j ((a2e [3,12,46,47,48] F1).map (·.2)) = [cb] ++ [mb] → (∀ π,b92 π (a2e [3,12,46,47,48] F1) = [(3,ren π (.ptr cb 0 0)),(12,ren π (.ptr mb 0 0)),(46,sl rl (D.fs.map Flt.enc)),(47,.int .i64 D.fs.length),(48,.int .i64 (i:Nat))]) → ∃ F2 H3,gcD 0 [3,12,46,47,48] F1 H2 = some (F2,H3) ∧ ∃ (i' cb mb lb pb:Nat) (ids:Nat → Nat) (es:List ((Nat × Int) × List Nat)),D.fs.length - i = D.fs.length - i' ∧ i' ≤ D.fs.length ∧ F2 = [(3,.ptr cb 0 0),(12,.ptr mb 0 0),(46,sl rl (D.fs.map Flt.enc)),(47,.int .i64 D.fs.length),(48,.int .i64 (i':Nat))] ∧ a01 H3 cb = some (.row 4 [[sl c.nc (c.nodes.map Nd.enc),sl c.mc (c.names.map a1n),.nilslice,sl c.oc (c.outs.map a0k)]]) ∧ BegSt c D rl (a9r c D 0) H3 mb lb pb ids es ∧ EsOk D i' es:=by
  intro i cb mb lb pb ids es H2 hi hB3 hc3 hE3 F1 hF1 hF2
  obtain ⟨π,H3,mb',lb',pb',ids',g1,g2,g3,g4⟩:=hB3.gc (b83 c D 0 M.pos) (keep:=[3,12,46,47,48]) (F:=F1) [cb] (by intro b hb;simp only [List.mem_singleton] at hb;subst hb;rw [hc3];exact hCr) hF1 (by have:=hE3.len;omega) (by simp)
  obtain ⟨cb',e1,e2⟩:=g4 cb (by simp)
  refine ⟨_,_,g1,i,cb',mb',lb',pb',ids',_,rfl,hi,?_,?_,g3,hE3⟩
  ·rw [hF2];simp +decide only [go_sem,e1,g2]<;>rfl
  ·rw [e2,hc3]
   show some (a0p π (.row 4 [[sl c.nc (c.nodes.map Nd.enc),sl c.mc (c.names.map a1n),.nilslice,sl c.oc (c.outs.map a0k)]])) = _
   rw [hCf]
 (refine svE Tryz.f30 ?_;simp only [Tryz.f30,gS])
 (repeat first|simp only [ww]|(apply xa;simp +decide only [go_sem,hck,hrun,hs1,hs2,hrm];rfl;kernel_rfl))
 refine a5k kp30_0 (fun N F H=>∃ (i cb mb lb pb:Nat) (ids:Nat → Nat) (es:List ((Nat × Int) × List Nat)),N = D.fs.length - i ∧ i ≤ D.fs.length ∧ F = [(3,.ptr cb 0 0),(12,.ptr mb 0 0),(46,sl rl (D.fs.map Flt.enc)),(47,.int .i64 D.fs.length),(48,.int .i64 (i:Nat))] ∧ a01 H cb = some (.row 4 [[sl c.nc (c.nodes.map Nd.enc),sl c.mc (c.names.map a1n),.nilslice,sl c.oc (c.outs.map a0k)]]) ∧ BegSt c D rl (a9r c D 0) H mb lb pb ids es ∧ EsOk D i es) (D.fs.length - 0) ?_ ?_
 ·rw [e1m c D]
  have hb:BegSt c D rl (a9r c D 0) [some (.row 4 [[sl c.nc (c.nodes.map Nd.enc),sl c.mc (c.names.map a1n),.nilslice,sl c.oc (c.outs.map a0k)]]),some (.row 2 [[sl p.ic (p.ins.map u8R),sl p.sc (p.sts.map u8R)]]),some (.row 2 [[V1,V2]]),some (.row 1 (a9r c D 0)),some (.map [] [] [] 0),some (.row 8 [[sl c.nc (c.nodes.map Nd.enc),sl c.mc (c.names.map a1n),.nilslice,sl c.oc (c.outs.map a0k),sl rl (D.fs.map Flt.enc),.islice (D.G.map u8R) (some c.nodes.length),.slice 3 0 c.nodes.length (some c.nodes.length),.map 4]])] 5 3 4 (fun _=>0) []:=⟨rfl,rfl,⟨rfl,fun j e he=>by simp at he,fun j k hj=>by simp at hj⟩⟩
  exact head 0 0 5 3 4 _ [] _ (Nat.zero_le _) hb rfl ⟨fun x=>rfl,Nat.le_refl _⟩ _ (by simp +decide only [go_sem]<;>rfl) (fun π=>by simp +decide only [go_sem]<;>rfl)
 ·rintro N F H ⟨i,cb,mb,lb,pb,ids,es,rfl,hi,rfl,hcb,hB,hE⟩
  have hLS0:=b83 c D 0 M.pos
  by_cases hlt:i < D.fs.length
  ·obtain ⟨f,hfi⟩:∃ f,D.fs[i]? = some f:=⟨_,z9e hlt⟩
   have hft:D.ft i = f:=by unfold Ded.ft;rw [List.getD_eq_getElem?_getD,hfi];rfl
   have c1:(i:Int) < D.fs.length:=by omega
   have hw:=wI1 (n:=i) (by omega)
   (repeat first|simp only [ww]|(apply xa;simp +decide only [go_sem,c1,hlt,hfi,Flt.enc,a5a,a5m,a9l,b25,a7l];rfl;kernel_rfl))
   have hB2:=hB.more (L:=[some (AObj.row 5 [f.enc])])
   have htb:a01 (H ++ [some (AObj.row 5 [f.enc])]) H.length = some (AObj.row 5 [f.enc]):=a5a
   have hcb2:a01 (H ++ [some (AObj.row 5 [f.enc])]) cb = some (.row 4 [[sl c.nc (c.nodes.map Nd.enc),sl c.mc (c.names.map a1n),.nilslice,sl c.oc (c.outs.map a0k)]]):=by rw [a3q (eq_true (a0z hcb)),hcb]
   simp only [Flt.enc] at hB2 htb hcb2
   generalize H ++ [some (AObj.row 5 [_])] = Hs at hB2 htb hcb2 ⊢
   generalize H.length = tb at htb ⊢
   refine d4l (fun F1 H2=>∃ ids2,(a2g F1 3 = .ptr cb 0 0 ∧ a2g F1 12 = .ptr mb 0 0 ∧ a2g F1 46 = sl rl (D.fs.map Flt.enc) ∧ a2g F1 47 = .int .i64 D.fs.length ∧ a2g F1 48 = .int .i64 (i:Nat)) ∧ BegSt c D rl (a9r c D 0) H2 mb lb pb ids2 (d0s es (f.node,f.pin) i) ∧ a01 H2 cb = some (.row 4 [[sl c.nc (c.nodes.map Nd.enc),sl c.mc (c.names.map a1n),.nilslice,sl c.oc (c.outs.map a0k)]])) ?_ ?_
   ·have hc1:=hB2.mach
    have hc2:=hB2.m.top
    have hl1:=a0z hc1
    have hl2:=a0z hc2
    have hl3:=a0z htb
    have hl4:=a0z hcb2
    obtain ⟨a1,a2,a3⟩:=hB2.apart hLS0
    obtain ⟨ot1,ot2⟩:=hB2.m.other htb (fun l e=>absurd e (by omega))
    obtain ⟨oc1,oc2⟩:=hB2.m.other hcb2 (fun l e=>absurd e (by omega))
    have ot3:tb ≠ mb:=by intro e;rw [e,hc1] at htb;cases htb
    have hen:=fun (H':a03) (hb:a01 H' pb = _) r=>keyL.entry (h:=a01 H') (r:=r) (hb.trans hc2) (f.node,f.pin) e50 hd hz1
    have hT0:∀ (o:Option AObj) (L:a03),a01 (Hs.set pb o ++ L) Hs.length = a01 L 0:=fun o L=>by have:=a8n (H:=Hs) (a:=pb) (o:=o) (L:=L) 0;rwa [Nat.add_zero] at this
    cases hpos:a94 (f.node,f.pin) (es.map (·.1)) with
    | none=>
     simp only [hpos] at hen
     have hen:∀ L1:a03,a4g L.env (a01 (Hs ++ L1)) 93 (.map pb) (.agg [.int .i64 f.node,.int .i64 f.pin]) = _:=fun L1=>hen _ (a3q (eq_true hl2)) _ rfl
     have hes:=fun (L1:a03) v=>a9h (k:=.i64) (h:=a01 (Hs.set pb (some (.map ((es.map (·.1)).map a3u ++ [a3u (f.node,f.pin)]) ((es.mapIdx fun j (e:(Nat × Int) × List Nat)=>AV.slice (ids j) 0 e.2.length none) ++ [AV.nilslice]) (List.range es.length ++ [es.length]) (es.length + 1))) ++ L1)) (b:=pb) (n:=es.length + 1) (cl:=es.length + 1) (ks:=(es.map (·.1)).map a3u ++ [a3u (f.node,f.pin)]) (vs:=(es.mapIdx fun j (e:(Nat × Int) × List Nat)=>AV.slice (ids j) 0 e.2.length none) ++ [AV.nilslice]) (by rw [a3a hl2,if_pos rfl,List.range_succ]) (j:=es.length) (by omega) v
     simp only [List.range_succ] at hes
     have hst:∀ v:AV,((es.mapIdx fun j (e:(Nat × Int) × List Nat)=>AV.slice (ids j) 0 e.2.length none) ++ [AV.nilslice]).set es.length v = (es.mapIdx fun j (e:(Nat × Int) × List Nat)=>AV.slice (ids j) 0 e.2.length none) ++ [v]:=by
      intro v
      have:=List.set_append_right (s:=es.mapIdx fun j (e:(Nat × Int) × List Nat)=>AV.slice (ids j) 0 e.2.length none) (t:=[AV.nilslice]) es.length v (by simp)
      rw [this];simp
     refine b40 (by simp +decide only [go_sem,Flt.enc,hc1,htb,a5a,a5m,a3q,b1m,a9l,b25,c3c,List.length_set,a7l,b2v,List.append_assoc,List.cons_append,List.nil_append,hl1,hl2,hl3,hen,hes,hst,hT0,List.set_set];rfl) ?_ ?_
     ·(repeat' (first|exact b85|exact b7j|refine b47 ?_ ?_|refine b7i (by simp only [List.length_cons,List.length_nil];decide +kernel) ?_|refine b7k (b54 (by simp<;>omega) (by simp<;>omega) (by simp<;>omega)) ?_))
     ·have hat:atE (f.node,f.pin) es = []:=by unfold atE;rw [hpos]
      have hobj:MSl.obj a3u ids es (f.node,f.pin) (Hs.length + 1) = .map ((es.map (·.1)).map a3u ++ [a3u (f.node,f.pin)]) ((es.mapIdx fun j (e:(Nat × Int) × List Nat)=>.slice (ids j) 0 e.2.length none) ++ [.slice (Hs.length + 1) 0 1 none]) (List.range es.length ++ [es.length]) (es.length + 1):=by unfold MSl.obj;rw [hpos,hat];rfl
      obtain ⟨ids2,hB3⟩:=BegSt.add (H1:=Hs.set pb (some (MSl.obj a3u ids es (f.node,f.pin) (Hs.length + 1))) ++ [some (.row 1 [[.int .i64 i]]),some (.row 1 [[.int .i64 i]])]) hLS0 hB2 (f.node,f.pin) i (Hs.length + 1) (by omega) (by rw [a3a hl2,if_pos rfl]) (by rw [a8n,hat];rfl) (fun d hd hn _=>by rw [a3a hd,if_neg (Ne.symm hn)])
      rw [hobj] at hB3
      exact ⟨ids2,⟨rfl,rfl,rfl,rfl,rfl⟩,hB3,by rw [a3a hl4,if_neg (Ne.symm oc1),hcb2]⟩
    | some j=>
     have hjl:j < es.length:=by simpa using (List.getElem?_eq_some_iff.1 (a4a hpos)).1
     obtain ⟨x,hx⟩:∃ x,es[j]? = some x:=⟨_,z9e hjl⟩
     have hat:atE (f.node,f.pin) es = x.2:=by unfold atE;rw [hpos];simp [hx]
     have hsub:=hB2.m.sub j x hx
     have hj2:=hB2.m.sub_c hjl
     have hj3:=ot2 j hjl
     have hj4:=(a3 j hjl).1
     have hjh:=a0z hsub
     have hlen:x.2.length + 1 ≤ 1000000000:=by
      have:=hE.at' (f.node,f.pin)
      rw [hat] at this
      have h2:=List.length_filter_le (D.at' f.node f.pin) (List.range i)
      rw [← this,List.length_range] at h2;omega
     have hg1:(es.mapIdx fun j (e:(Nat × Int) × List Nat)=>AV.slice (ids j) 0 e.2.length none)[j]? = some (.slice (ids j) 0 x.2.length none):=by rw [List.getElem?_mapIdx,hx];rfl
     have hg2:(List.range es.length)[j]? = some j:=List.getElem?_range hjl
     simp only [hpos,hg1,hg2] at hen
     have hen:∀ L1:a03,a4g L.env (a01 (Hs ++ L1)) 93 (.map pb) (.agg [.int .i64 f.node,.int .i64 f.pin]) = _:=fun L1=>hen _ (a3q (eq_true hl2)) _ rfl
     have hss:=a8y hc2
     have hes:=fun (L1:a03) v=>a9h (k:=.i64) (h:=a01 (Hs.set (ids j) none ++ L1)) (b:=pb) (by rw [a3a hl2,if_neg hj2];exact hc2) hjl v
     refine b40 (by simp +decide only [go_sem,Flt.enc,hc1,htb,a5a,a5m,a3q,b1m,a9l,b25,c3c,List.length_set,a7l,b2v,List.append_assoc,List.cons_append,List.nil_append,hl1,hl2,hl3,hen,hes,hss,hsub,hlen,hjh];rfl) ?_ ?_
     ·(repeat' (first|exact b85|exact b7j|refine b47 ?_ ?_|refine b7i (by simp only [List.length_cons,List.length_nil];decide +kernel) ?_|refine b7k (b54 (by simp<;>omega) (by simp<;>omega) (by simp<;>omega)) ?_))
     ·have hobj:MSl.obj a3u ids es (f.node,f.pin) (Hs.length + 1) = .map ((es.map (·.1)).map a3u) ((es.mapIdx fun j (e:(Nat × Int) × List Nat)=>AV.slice (ids j) 0 e.2.length none).set j (.slice (Hs.length + 1) 0 (x.2.length + 1) none)) (List.range es.length) es.length:=by unfold MSl.obj;rw [hpos,hat]
      obtain ⟨ids2,hB3⟩:=BegSt.add (H1:=(Hs.set (ids j) none).set pb (some (MSl.obj a3u ids es (f.node,f.pin) (Hs.length + 1))) ++ [some (.row 1 [[.int .i64 i]]),some (.row 1 (x.2.map nR ++ [[.int .i64 i]]))]) hLS0 hB2 (f.node,f.pin) i (Hs.length + 1) (by omega) (by rw [b1n hl2,if_pos rfl]) (by rw [c5o,hat,List.map_append];rfl) (fun d hd hn hq=>by rw [b1n hd,if_neg (Ne.symm hn),if_neg (Ne.symm (hq j hpos))])
      rw [hobj] at hB3
      exact ⟨ids2,⟨rfl,rfl,rfl,rfl,rfl⟩,hB3,by rw [b1n hl4,if_neg (Ne.symm oc1),if_neg (Ne.symm (oc2 j hjl)),hcb2]⟩
   ·rintro F1 H2 ⟨ids2,⟨g3,g12,g46,g47,g48⟩,hB3,hc3⟩
    (repeat first|simp only [ww]|(apply xa;simp +decide only [go_sem,g48,hw];rfl;kernel_rfl))
    refine a21 (D.fs.length - (i + 1)) (by omega) (head (i + 1) cb mb lb pb ids2 _ H2 hlt hB3 hc3 (hE.next hft) _ (by simp +decide only [go_sem,g3,g12,g46,g47]<;>rfl) (fun π=>by simp +decide only [go_sem,g3,g12,g46,g47]<;>rfl))
  ·obtain rfl:i = D.fs.length:=by omega
   have c1:¬ (D.fs.length:Int) < D.fs.length:=by omega
   have hE1:Mach c D es:=⟨M.nodes,M.ok,M.fl,M.nl,M.il,M.kd,fun n pin=>hE.at' (n,pin)⟩
   have hlc:=a0z hcb
   have hol:D.ord.length = c.nodes.length:=by have:=M.ok.perm.length_eq;rw [List.length_range,M.nodes] at this;exact this
   have head2:∀ (k mb lb pb:Nat) (ids:Nat → Nat) (H2:a03),k ≤ c.nodes.length → BegSt c D rl (a9r c D k) H2 mb lb pb ids es → ∀ F1:Frm,a0j ((a2e [12,71,72,73] F1).map (·.2)) = [] ++ [mb] → (∀ π,b92 π (a2e [12,71,72,73] F1) = [(12,ren π (.ptr mb 0 0)),(71,.islice (D.ord.map a0k) (some c.nodes.length)),(72,.int .i64 c.nodes.length),(73,.int .i64 (k:Nat))]) →
    ∃ F2 H3,gcD 0 [12,71,72,73] F1 H2 = some (F2,H3) ∧ ∃ (k' mb lb pb:Nat) (ids:Nat → Nat),c.nodes.length - k = c.nodes.length - k' ∧ k' ≤ c.nodes.length ∧ F2 = [(12,.ptr mb 0 0),(71,.islice (D.ord.map a0k) (some c.nodes.length)),(72,.int .i64 c.nodes.length),(73,.int .i64 (k':Nat))] ∧ BegSt c D rl (a9r c D k') H3 mb lb pb ids es:=by
    intro k mb lb pb ids H2 hk hB3 F1 hF1 hF2
    obtain ⟨π,H3,mb',lb',pb',ids',g1,g2,g3,_⟩:=hB3.gc (b83 c D k M.pos) (keep:=[12,71,72,73]) (F:=F1) [] (by intro b hb;cases hb) hF1 (by have:=hE.len;omega) (by simp)
    refine ⟨_,_,g1,k,mb',lb',pb',ids',rfl,hk,?_,g3⟩
    rw [hF2];simp +decide only [go_sem,g2]<;>rfl
   (repeat first|simp only [ww]|(apply xa;simp +decide only [go_sem,c1,hcb,hlc,hord,hol];rfl;kernel_rfl))
   refine a5k kp30_2 (fun N F H=>∃ (k' mb lb pb:Nat) (ids:Nat → Nat),N = c.nodes.length - k' ∧ k' ≤ c.nodes.length ∧ F = [(12,.ptr mb 0 0),(71,.islice (D.ord.map a0k) (some c.nodes.length)),(72,.int .i64 c.nodes.length),(73,.int .i64 (k':Nat))] ∧ BegSt c D rl (a9r c D k') H mb lb pb ids es) (c.nodes.length - 0) ?_ ?_
   ·exact head2 0 mb lb pb ids H (Nat.zero_le _) hB _ (by simp +decide only [go_sem]<;>rfl) (fun π=>by simp +decide only [go_sem]<;>rfl)
   ·rintro N F H ⟨k,mb,lb,pb,ids,rfl,hk,rfl,hB⟩
    have hLS:=b83 c D k M.pos
    have hmach:=hB.mach
    have hml:=a0z hmach
    have hfz:=hB.frz hLS 8
    by_cases hkt:k < c.nodes.length
    ·obtain ⟨n,hn⟩:∃ n,D.ord[k]? = some n:=⟨_,z9e (by omega)⟩
     have hnl2:n < c.nodes.length:=by have:=M.ok.ordl n (List.mem_of_getElem? hn);rwa [M.nodes] at this
     obtain ⟨x,hx⟩:∃ x,c.nodes[n]? = some x:=⟨_,z9e hnl2⟩
     have c2:(k:Int) < c.nodes.length:=by omega
     have hko:k < D.ord.length:=by omega
     have hwk:=wI1 (n:=k) (by omega)
     have hls:=hB.ls
     have hll:=a0z hls
     have hget:=b2w c D k n hnl2
     have hll2:=hLS.len
     have hlx:∀ d:Bool,a0g L.env d (sem L.env Mf) (.func (.func 68) [] []) [.ptr mb 0 0,.int .i64 n] H = some (.iset (D.dset n),H,List.range H.length):=fun d=>by
      refine c8e (rl:=rl) (LS:=a9r c D k) hE1 hx (fun hc m hm=>?_) ?_
      ·have hcm:=M.ok.comb n (by rw [M.nodes];exact hnl2) (by unfold Ded.comb at hc;simpa using hc)
       have hmem:=M.ok.topo k n hn hcm m (by rw [hE1.ins hx];exact hm)
       have hml:m < c.nodes.length:=by have:=M.ok.inn n (by rw [M.nodes];exact hnl2) m (by rw [hE1.ins hx];exact hm);rwa [M.nodes] at this
       rw [b2w c D k m hml,List.contains_iff_mem.2 hmem];rfl
      ·rw [c9b,decide_eq_false (Nat.not_lt_zero _),cond_false];exact hfz
     have hro:∀ σ,a6d L.env (.func (.func 68) [] []) H H σ = true:=fun σ=>by
      show (L.env.ro 68 && σ.all fun b=>b13 (a01 H b) (a01 H b)) = true
      rw [show L.env.ro 68 = true from rfl,Bool.true_and,List.all_eq_true]
      intro b _;exact b5y _
     (repeat first|simp only [ww]|(apply xa;simp +decide only [go_sem,c2,hkt,hn,hko];rfl;kernel_rfl))
     refine d4l (fun F1 H2=>(a2g F1 12 = .ptr mb 0 0 ∧ a2g F1 71 = .islice (D.ord.map a0k) (some c.nodes.length) ∧ a2g F1 72 = .int .i64 c.nodes.length ∧ a2g F1 73 = .int .i64 (k:Nat)) ∧ BegSt c D rl (a9r c D (k + 1)) H2 mb lb pb ids es) ?_ ?_
     ·refine b40 (by simp +decide only [go_sem,hmach,hml,hls,hll,hget,hll2,hnl2,hlx,hro];rfl) ?_ ?_
      ·(repeat' (first|exact b85|exact b7j|refine b47 ?_ ?_|refine b7i (by simp only [List.length_cons,List.length_nil];decide +kernel) ?_|refine b7k (b54 (by simp<;>omega) (by simp<;>omega) (by simp<;>omega)) ?_))
      ·refine ⟨⟨rfl,rfl,rfl,rfl⟩,?_⟩
       obtain ⟨a1,a2,a3⟩:=hB.apart hLS
       have e:=d2b c D k n hn hnl2
       show BegSt c D rl _ (List.set H lb (some (.row 1 ((a9r c D k).set n [.iset (D.dset n)])))) mb lb pb ids es
       rw [e]
       have hne:∀ d,d ≠ lb → a01 (List.set H lb (some (.row 1 (a9r c D (k + 1))))) d = a01 H d:=fun d hd=>a6g (Ne.symm hd)
       refine ⟨by rw [hne mb hB.ml,hmach],by rw [b2b hll],hB.m.same fun d hd=>hne d ?_⟩
       rcases MSm.mem_blocks.1 hd with rfl|⟨j,hj,rfl⟩
       ·exact Ne.symm a2
       ·exact Ne.symm (a3 j hj).2
     ·rintro F1 H2 ⟨⟨g12,g71,g72,g73⟩,hB3⟩
      (repeat first|simp only [ww]|(apply xa;simp +decide only [go_sem,g73,hwk];rfl;kernel_rfl))
      refine a21 (c.nodes.length - (k + 1)) (by omega) (head2 (k + 1) mb lb pb ids H2 hkt hB3 _ (by simp +decide only [go_sem,g12,g71,g72]<;>rfl) (fun π=>by simp +decide only [go_sem,g12,g71,g72]<;>rfl))
    ·obtain rfl:k = c.nodes.length:=by omega
     have c2:¬ (c.nodes.length:Int) < c.nodes.length:=by omega
     (repeat first|simp only [ww]|(apply xa;simp +decide only [go_sem,c2];rfl;kernel_rfl))
     refine a77 (vs:=[.ptr mb 0 0,.int .i64 0]) (r:=(.tuple [.iptr [sl c.nc (c.nodes.map Nd.enc),sl c.mc (c.names.map a1n),.nilslice,sl c.oc (c.outs.map a0k),sl rl (D.fs.map Flt.enc),.islice (D.G.map u8R) (some c.nodes.length),.islice (a9r c D c.nodes.length) (some c.nodes.length),a1r a3u es],.int .i64 0],[])) (by simp +decide only [go_sem]<;>rfl) ?_ ⟨es,hE,rfl⟩
     show a1j false 0 _ _ = _
     rw [c0m]
     have kb:∀ b:Nat,decide (b < 0) = false:=fun b=>decide_eq_false (Nat.not_lt_zero _)
     simp only [a5g,c9a,a74,b8g,c9b,kb,cond_false,hfz,a0h]
     rfl
def a8i (c:Cir) (D:Ded):List (List AV):=(List.range c.nodes.length).map fun m=>[.iset (D.dset m)]
omit C in
theorem d2a:a9r c D c.nodes.length = a8i c D:=by
 unfold a9r a8i
 refine List.map_congr_left fun m hm=>?_
 have hol:D.ord.length = c.nodes.length:=by have:=M.ok.perm.length_eq;rw [List.length_range,M.nodes] at this;exact this
 have hmem:m ∈ D.ord.take c.nodes.length:=by
  rw [← hol,List.take_length]
  exact M.ok.perm.mem_iff.2 (by rw [M.nodes];exact hm)
 rw [List.contains_iff_mem.2 hmem];rfl
theorem b6z:∃ es,Mach c D es ∧ ∀ (d:Bool) (H:a03),a0g L.env d (sem L.env Mf) (.func (.func 30) [] []) [.agg [sl c.nc (c.nodes.map Nd.enc),sl c.mc (c.names.map a1n),.nilslice,sl c.oc (c.outs.map a0k)],sl rl (D.fs.map Flt.enc),.agg [sl p.ic (p.ins.map u8R),sl p.sc (p.sts.map u8R)]] H = some (.tuple [.iptr [sl c.nc (c.nodes.map Nd.enc),sl c.mc (c.names.map a1n),.nilslice,sl c.oc (c.outs.map a0k),sl rl (D.fs.map Flt.enc),.islice (D.G.map u8R) (some c.nodes.length),.islice (a8i c D) (some c.nodes.length),a1r a3u es],.int .i64 0],H,[]):=by
 obtain ⟨r,⟨es,hE,rfl⟩,hr⟩:=d3z (rl:=rl) M C
 rw [d2a M] at hr
 exact ⟨es,⟨M.nodes,M.ok,M.fl,M.nl,M.il,M.kd,fun n pin=>hE.at' (n,pin)⟩,fun d H=>a04 (by kernel_rfl) (by kernel_rfl) rfl (by simp only [List.nil_append,List.append_nil,go_sem]) hr rfl⟩
end
theorem _root_.Go.Ax.sem_prim {E:Env} {M:List Fact} {g:FuncId} {args:List AV} {r:AV × a03} (hno:∀ x ∈ M,x.g ≠ g) (h:E.prim g args = some r):sem E M g args [] = some r:=
 c1r hno 0 (by unfold b17 c7n;simp only [h])
def a1p (i:Int):List AV:=[.int .i64 i]
def dsV (S:List Int):AV:=match S with
 | []=>.nilslice
 | _=>.islice (S.map a1p) (some S.length)
theorem a9v (S:List Int):FlatR (S.map a1p):=FlatR.map fun _=>rfl
theorem b08 (S:List Int):refs (dsV S) = []:=by cases S<;>rfl
theorem b3d {d:Bool} {H:a03} {V:AV} {m:Nat} {q:Nat → Bool} (hm:m ≤ 1000000) (hV:a3f 0 false (a5c (a01 H) 0 12) V = some (.iset (a1a m q))) :
 a0g L.env d (sem L.env Mf) (.func (.func 31) [] []) [V] H = some (dsV (a1a m q),H,List.range H.length):=by
 have hk:c8l (a1a m q) = true:=d7o (d7s hm) (c8z m q)
 generalize a1a m q = S at hk hV
 have hp:L.env.prim 31 [.iset S] = a89 [.iset S]:=rfl
 have h1:a5h 0 false (a5c (a01 H) 0 12) [V] = some [.iset S]:=by rw [a74,hV];rfl
 cases S with
 | nil=>
  refine b1w (args:=[V]) (by kernel_rfl) (by kernel_rfl) rfl h1 (v:=.nilslice) (H1:=[]) (sem_prim (fun _ h=>by cases h) ?_) rfl rfl
  rw [hp]
  simp only [a89,hk,cond_true]
 | cons a r=>
  refine b1w (args:=[V]) (by kernel_rfl) (by kernel_rfl) rfl h1 (v:=.slice 0 0 (r.length + 1) (some (r.length + 1))) (H1:=[some (.row 1 ((a :: r).map a1p))]) (sem_prim (fun _ h=>by cases h) ?_) rfl ?_
  ·rw [hp]
   simp only [a89,hk,cond_true]
   rfl
  ·have hf:=a9v (a :: r)
   have hno:d59 (.row 1 ((a :: r).map a1p)) = true:=by
    show ((a :: r).map a1p).all c3l = true
    rw [List.all_eq_true]
    intro x hx
    obtain ⟨i,_,rfl⟩:=List.mem_map.1 hx
    rfl
   have hc:a6l [some (.row 1 ((a :: r).map a1p))] 0 = some (.row 1 ((a :: r).map a1p)):=by
    unfold a6l
    show (match some (AObj.row 1 ((a :: r).map a1p)) with|some o=>bif d59 o then some o else none|none=>none) = _
    simp only [hno,cond_true]
   rw [a8q,decide_eq_false (Nat.not_lt_zero _),cond_false,a75 (eq_true (by omega:0 < 12)),hc]
   simp only [b0w,a0h,List.drop_zero,Nat.zero_add,List.length_map,List.length_cons]
   rw [decide_eq_true (Nat.le_refl _),cond_true,List.take_of_length_le (by simp),a1g _ _ hf]
   rfl
theorem d8l (S:List Int):(dsV S).cells = [dsV S]:=by cases S<;>rfl
theorem d68 (S:List Int):(dsV S).storable = true:=by cases S<;>rfl
def a59 (c:Cir) (D:Ded) (k:Nat):List (List AV):=(List.range c.nodes.length).map fun m=>[bif decide (m < k) then dsV (D.dset m) else .nilslice]
def b6e (c:Cir) (D:Ded):AV:=.islice ((List.range c.nodes.length).map fun m=>[dsV (D.dset m)]) (some c.nodes.length)
theorem a61 (c:Cir) (D:Ded) (k:Nat):FlatR (a59 c D k):=FlatR.map fun m=>by
 cases decide (m < k)
 ·rfl
 ·simp only [cond_true,a0a,b08,a54,List.append_nil]
theorem a98 (c:Cir) (D:Ded) (k:Nat):(a59 c D k).length = c.nodes.length:=by simp [a59]
theorem b1h (c:Cir) (D:Ded) (k m:Nat) (hm:m < c.nodes.length):(a59 c D k)[m]? = some [bif decide (m < k) then dsV (D.dset m) else .nilslice]:=by
 unfold a59;rw [List.getElem?_map,List.getElem?_range hm];rfl
theorem c5g (c:Cir) (D:Ded) (k:Nat) (hk:k < c.nodes.length):(a59 c D k).set k [dsV (D.dset k)] = a59 c D (k + 1):=by
 apply List.ext_getElem?
 intro m
 rw [List.getElem?_set]
 by_cases hm:m < c.nodes.length
 ·rw [b1h c D (k + 1) m hm,b1h c D k m hm,a98]
  by_cases h:k = m
  ·subst h;rw [if_pos rfl,if_pos hk,decide_eq_true (by omega:k < k + 1)];rfl
  ·rw [if_neg h]
   have e:decide (m < k) = decide (m < k + 1):=by rw [decide_eq_decide];omega
   rw [e]
 ·have h1:(a59 c D (k + 1))[m]? = none:=List.getElem?_eq_none (by rw [a98];omega)
  have h2:(a59 c D k)[m]? = none:=List.getElem?_eq_none (by rw [a98];omega)
  rw [h1,h2,if_neg (by omega)]
theorem c5h (c:Cir) (D:Ded):a59 c D c.nodes.length = (List.range c.nodes.length).map fun m=>[dsV (D.dset m)]:=by
 unfold a59
 refine List.map_congr_left fun m hm=>?_
 rw [decide_eq_true (List.mem_range.1 hm)];rfl
theorem b45 (c:Cir) (D:Ded) {m:Nat} (hm:m < c.nodes.length):(a8i c D)[m]? = some [.iset (D.dset m)]:=by
 unfold a8i;rw [List.getElem?_map,List.getElem?_range hm];rfl
theorem d2g (c:Cir) (D:Ded):List.replicate c.nodes.length [AV.nilslice] = a59 c D 0:=by
 unfold a59
 rw [show (fun m:Nat=>[bif decide (m < 0) then dsV (D.dset m) else AV.nilslice]) = fun _=>[AV.nilslice] from rfl]
 rw [List.map_const',List.length_range]
section
variable {c:Cir} {p:Pat} {D:Ded} (M:Mach0 c D) (C:DCalls c p D) {rl:Rep}
include M C
theorem c3n:sem L.env Mf 12 [.agg [sl c.nc (c.nodes.map Nd.enc),sl c.mc (c.names.map a1n),.nilslice,sl c.oc (c.outs.map a0k)],sl rl (D.fs.map Flt.enc),.agg [sl p.ic (p.ins.map u8R),sl p.sc (p.sts.map u8R)]] [] = some (.tuple [b6e c D,.int .i64 0],[]):=by
 obtain ⟨es,hE,hb⟩:=b6z (rl:=rl) M C
 have hnl:=M.nl
 have hfl:=M.fl
 have hrm:c.nodes.length ≤ 1000000000:=by omega
 have hell:(a8i c D).length = c.nodes.length:=by simp [a8i]
 have hIr:refs (a1r a3u es) = []:=rfl
 have hIs:(a1r a3u es).storable = true:=rfl
 (refine sv Tryz.f12 ?_;simp only [Tryz.f12,gS])
 (repeat first|simp only [ww]|(apply xa;simp +decide only [go_sem,hb,hrm,hell];rfl;kernel_rfl))
 refine a0x (σ:=Nat) kp12_0 (fun k=>[(10,.slice 0 0 c.nodes.length (some c.nodes.length)),(32,.islice (a8i c D) (some c.nodes.length)),(33,.int .i64 c.nodes.length),(34,.int .i64 k)])
  (fun k=>[some (.row 1 (a59 c D k))]) (fun k=>c.nodes.length - k) (fun k=>k ≤ c.nodes.length) 0 ?_ (Nat.zero_le _) ?_
 ·rw [d2g c D]
  have h1:=a0n (a61 c D 0)
  have h2:=fun π=>a0m π (a61 c D 0)
  (simp +decide only [go_sem,a02,a00,h1,h2]<;>rfl)<;>rfl
 ·intro k hk
  have hTl:=a98 c D k
  by_cases hkt:k < c.nodes.length
  ·have c1:(k:Int) < c.nodes.length:=by omega
   have hkl:k < (a8i c D).length:=by omega
   have hw:=wI1 (n:=k) (by omega)
   have hg:=b45 c D hkt
   have hT:=b1h c D k k hkt
   have hs:=fun (d:Bool) (H:a03)=>b3d (d:=d) (H:=H) (V:=.iset (D.dset k)) (m:=D.fs.length) (q:=D.dif k) (by omega) rfl
   rw [show a1a D.fs.length (D.dif k) = D.dset k from rfl] at hs
   have hset:=c5g c D k hkt
   have hsto:=d68 (D.dset k)
   have hcl:=d8l (D.dset k)
   have h1:=a0n (a61 c D (k + 1))
   have h2:=fun π=>a0m π (a61 c D (k + 1))
   (repeat first|simp only [ww]|(apply xa;simp +decide only [go_sem,c1,hkt,hkl,hg,hs,hT,hTl,hset,hsto,hcl,hw];rfl;kernel_rfl))
   refine a1y (k + 1) ?_ (by omega) (by omega)
   (simp +decide only [go_sem,a02,a00,h1,h2]<;>rfl)<;>rfl
  ·obtain rfl:k = c.nodes.length:=by omega
   have c1:¬ (c.nodes.length:Int) < c.nodes.length:=by omega
   have hf:=a61 c D c.nodes.length
   have htk:(a59 c D c.nodes.length).take c.nodes.length = a59 c D c.nodes.length:=List.take_of_length_le (by omega)
   have h2:=fun m d=>a1g (m:=m) (d:=d) hf
   unfold b6e
   rw [← c5h]
   generalize a59 c D c.nodes.length = T at hTl h2 htk
   (repeat first|simp only [ww]|(apply xa;simp +decide only [go_sem,c1];rfl;kernel_rfl))
   (apply fqb;simp +decide only [go_sem,hTl,h2,htk]<;>rfl)
theorem c5f {d:Bool} (H:a03):a0g L.env d (sem L.env Mf) (.func (.func 12) [] []) [.agg [sl c.nc (c.nodes.map Nd.enc),sl c.mc (c.names.map a1n),.nilslice,sl c.oc (c.outs.map a0k)],sl rl (D.fs.map Flt.enc),.agg [sl p.ic (p.ins.map u8R),sl p.sc (p.sts.map u8R)]] H = some (.tuple [b6e c D,.int .i64 0],H,[]):=
 a04 (by kernel_rfl) (by kernel_rfl) rfl (by simp only [List.nil_append,List.append_nil,go_sem]) (c3n M C) (by
  have h1:FlatR ((List.range c.nodes.length).map fun m=>[dsV (D.dset m)]):=FlatR.map fun m=>by simp only [a0a,b08,a54,List.append_nil]
  rfl)
end
def _root_.Go.Pc.Ded.outT (D:Ded) (l:List Nat) (i:Nat):Bool:=l.any fun n=>D.dif n i
def _root_.Go.Pc.Ded.staT (D:Ded) (l:List Nat) (i:Nat):Bool:=l.any fun n=>D.chg n 0 i
theorem c4g {α:Type} {f:α → Bool} {l:List α} {t:Nat} {v:α} (h:l[t]? = some v):(l.take (t + 1)).any f = ((l.take t).any f || f v):=by
 rw [a14 h,List.any_append];simp
section
variable {c:Cir} {p:Pat} {D:Ded} (M:Mach0 c D) (C:DCalls c p D) {rl:Rep}
include M C
theorem e29 (ho:∀ n ∈ c.outs,n < c.nodes.length) (hol:c.outs.length < 1000000):sem L.env Mf 13 [.agg [sl c.nc (c.nodes.map Nd.enc),sl c.mc (c.names.map a1n),.nilslice,sl c.oc (c.outs.map a0k)],sl rl (D.fs.map Flt.enc),.agg [sl p.ic (p.ins.map u8R),sl p.sc (p.sts.map u8R)]] [] = some (.tuple [dsV (a1a D.fs.length fun i=>D.outT c.outs i || D.staT (kinds c.nodes 14) i),.int .i64 0],[]):=by
 obtain ⟨es,hE,hb⟩:=b6z (rl:=rl) M C
 have hnl:=M.nl
 have hfl:=M.fl
 have hell:(a8i c D).length = c.nodes.length:=by simp [a8i]
 have hIr:refs (a1r a3u es) = []:=rfl
 have hrI:∀ π,ren π (a1r a3u es) = a1r a3u es:=fun π=>a2m π _ rfl
 have hst:=fun (d:Bool) (H:a03)=>a7d (d:=d) H c (by omega)
 obtain ⟨r1,e14⟩:=a8l (kinds c.nodes 14)
 rw [e14] at hst
 have hkl:=a6f c.nodes 14
 have hkm:∀ n ∈ kinds c.nodes 14,n < c.nodes.length ∧ a0c c.nodes n = 14:=fun n hn=>by
  unfold kinds a3k at hn
  rw [List.mem_filter,List.mem_range] at hn
  exact ⟨hn.1,by simpa using hn.2⟩
 simp only [Cir.enc] at hst
 have hfin:=fun (H:a03) (q:Nat → Bool) (hb:a01 H 0 = some (.uset (a1a D.fs.length q)))=>b3d (d:=false) (H:=H) (V:=.map 0) (m:=D.fs.length) (q:=q) (by omega) (by rw [c9c,decide_eq_false (Nat.not_lt_zero _),cond_false,c0j (by omega) hb])
 generalize hS14:kinds c.nodes 14 = S14 at hst hkl hkm
 (refine sv Tryz.f13 ?_;simp only [Tryz.f13,gS])
 (repeat first|simp only [ww]|(apply xa;simp +decide only [go_sem,hb];rfl;kernel_rfl))
 refine a0x (σ:=Nat) kp13_0 (fun t=>[(3,.ptr 0 0 0),(8,.iptr [sl c.nc (c.nodes.map Nd.enc),sl c.mc (c.names.map a1n),.nilslice,sl c.oc (c.outs.map a0k),sl rl (D.fs.map Flt.enc),.islice (D.G.map u8R) (some c.nodes.length),.islice (a8i c D) (some c.nodes.length),a1r a3u es]),(10,.map 1),(28,sl c.oc (c.outs.map a0k)),(29,.int .i64 c.outs.length),(30,.int .i64 t)])
  (fun t=>[some (.row 4 [[sl c.nc (c.nodes.map Nd.enc),sl c.mc (c.names.map a1n),.nilslice,sl c.oc (c.outs.map a0k)]]),some (.uset (a1a D.fs.length (D.outT (c.outs.take t))))]) (fun t=>c.outs.length - t) (fun t=>t ≤ c.outs.length) 0 ?_ (Nat.zero_le _) ?_
 ·have e:a1a D.fs.length (D.outT (c.outs.take 0)) = []:=by
   unfold a1a;rw [List.map_eq_nil_iff,List.filter_eq_nil_iff];intro i _;simp [Ded.outT]
  rw [e]
  (simp +decide only [go_sem,a02,a00,hIr,hrI]<;>rfl)<;>rfl
 ·intro t ht
  by_cases htl:t < c.outs.length
  ·obtain ⟨n,hn⟩:∃ n,c.outs[t]? = some n:=⟨_,z9e htl⟩
   have hnn:=ho n (List.mem_of_getElem? hn)
   have hle:n < (a8i c D).length:=by omega
   have c1:(t:Int) < c.outs.length:=by omega
   have hw:=wI1 (n:=t) (by omega)
   have hg:=b45 c D hnn
   have hcp:=fun (d:Bool) (x0:Option AObj) (X:a03)=>c0p (d:=d) (x0 :: some (.uset (a1a D.fs.length (D.outT (c.outs.take t)))) :: X) 1 D.fs.length (D.outT (c.outs.take t)) (D.dif n) rfl
   rw [show a1a D.fs.length (D.dif n) = D.dset n from rfl] at hcp
   have e:(a1a D.fs.length fun k=>D.outT (c.outs.take t) k || D.dif n k) = a1a D.fs.length (D.outT (c.outs.take (t + 1))):=a0v fun i _=>(c4g hn).symm
   rw [e] at hcp
   (repeat first|simp only [ww]|(apply xa;simp +decide only [go_sem,c1,htl,hn,hg,hle,hnn,hcp,hw];rfl;kernel_rfl))
   refine a1y (t + 1) ?_ (by omega) (by omega)
   (simp +decide only [go_sem,a02,a00,hIr,hrI]<;>rfl)<;>rfl
  ·obtain rfl:t = c.outs.length:=by omega
   have c1:¬ (c.outs.length:Int) < c.outs.length:=by omega
   rw [List.take_length]
   (repeat first|simp only [ww]|(apply xa;simp +decide only [go_sem,c1,hst];rfl;kernel_rfl))
   refine a0x (σ:=Nat) kp13_2 (fun t=>[(8,.iptr [sl c.nc (c.nodes.map Nd.enc),sl c.mc (c.names.map a1n),.nilslice,sl c.oc (c.outs.map a0k),sl rl (D.fs.map Flt.enc),.islice (D.G.map u8R) (some c.nodes.length),.islice (a8i c D) (some c.nodes.length),a1r a3u es]),(10,.map 0),(45,sl r1 (S14.map a0k)),(46,.int .i64 S14.length),(47,.int .i64 t)])
    (fun t=>[some (.uset (a1a D.fs.length fun i=>D.outT c.outs i || D.staT (S14.take t) i))]) (fun t=>S14.length - t) (fun t=>t ≤ S14.length) 0 ?_ (Nat.zero_le _) ?_
   ·have e:(a1a D.fs.length fun i=>D.outT c.outs i || D.staT (S14.take 0) i) = a1a D.fs.length (D.outT c.outs):=a0v fun i _=>by simp [Ded.staT]
    rw [e]
    (simp +decide only [go_sem,a02,a00,hIr,hrI]<;>rfl)<;>rfl
   ·intro t ht
    by_cases htl:t < S14.length
    ·obtain ⟨n,hn⟩:∃ n,S14[t]? = some n:=⟨_,z9e htl⟩
     obtain ⟨hnn,hk14⟩:=hkm n (List.mem_of_getElem? hn)
     obtain ⟨x,hx⟩:∃ x,c.nodes[n]? = some x:=⟨_,z9e hnn⟩
     have hxk:x.kind = 14:=by rw [← hk14,a18 hx]
     have hlo:=M.ok.lo n (by rw [M.nodes];exact hnn)
     rw [hE.ins hx,hE.kind hx,hxk] at hlo
     have hx0:0 < x.ins.length:=hlo
     obtain ⟨m,hm⟩:∃ m,x.ins[0]? = some m:=⟨_,z9e hx0⟩
     have hL:∀ m ∈ x.ins,(a8i c D)[m]? = some [.iset (D.dset m)]:=fun m hm=>by
      obtain ⟨j,hj⟩:=List.mem_iff_getElem?.1 hm
      exact b45 c D (hE.inl hx hj)
     have d1:(t:Int) < S14.length:=by omega
     have hw:=wI1 (n:=t) (by omega)
     have hsm:=fun (d:Bool) (H:a03)=>b9e (rl:=rl) (d:=d) hE H hx hL
     (repeat first|simp only [ww]|(apply xa;simp +decide only [go_sem,d1,htl,hn,hsm];rfl;kernel_rfl))
     refine c6q kp13_4 (a1a D.fs.length (D.sm n)) (fun V=>[(8,.iptr [sl c.nc (c.nodes.map Nd.enc),sl c.mc (c.names.map a1n),.nilslice,sl c.oc (c.outs.map a0k),sl rl (D.fs.map Flt.enc),.islice (D.G.map u8R) (some c.nodes.length),.islice (a8i c D) (some c.nodes.length),a1r a3u es]),(10,.map 0),(14,.int .i64 n),(45,sl r1 (S14.map a0k)),(46,.int .i64 S14.length),(47,.int .i64 t),(54,.ptr 1 0 0)])
      (fun V=>[some (.uset (a1a D.fs.length fun i=>(D.outT c.outs i || D.staT (S14.take t) i) || (met V i && D.chg n 0 i))),some (.miter (a1a D.fs.length (D.sm n)) V none)]) 1 (.exit 4)
      [(56,.bool false),(55,.tuple [.bool false]),(8,.iptr [sl c.nc (c.nodes.map Nd.enc),sl c.mc (c.names.map a1n),.nilslice,sl c.oc (c.outs.map a0k),sl rl (D.fs.map Flt.enc),.islice (D.G.map u8R) (some c.nodes.length),.islice (a8i c D) (some c.nodes.length),a1r a3u es]),(10,.map 0),(14,.int .i64 n),(45,sl r1 (S14.map a0k)),(46,.int .i64 S14.length),(47,.int .i64 t),(54,.ptr 1 0 0)] [some (.uset (a1a D.fs.length fun i=>D.outT c.outs i || D.staT (S14.take (t + 1)) i)),none] (b1l _ _) ?_ ?_ ?_ ?_ ?_
     ·have e:(a1a D.fs.length fun i=>(D.outT c.outs i || D.staT (S14.take t) i) || (met [] i && D.chg n 0 i)) = a1a D.fs.length fun i=>D.outT c.outs i || D.staT (S14.take t) i:=a0v fun i _=>by simp [c26]
      rw [e]
      (simp +decide only [go_sem,a02,a00,hIr,hrI]<;>rfl)<;>rfl
     ·intro V _ _;exact ⟨rfl,none,rfl⟩
     ·intro V i h1 h2 h3 h4
      obtain ⟨j,rfl,hj,_⟩:=a7n.1 h3
      obtain ⟨f,hf⟩:∃ f,D.fs[j]? = some f:=⟨_,z9e hj⟩
      have hch:=fun (d:Bool) (H:a03)=>c4c (rl:=rl) (d:=d) hE H hx hm hf (hL m (List.mem_of_getElem? hm))
      simp only [Int.natCast_zero] at hch
      cases hq:D.chg n 0 j with
      | false=>
       rw [hq] at hch
       have e2:(a1a D.fs.length fun i=>(D.outT c.outs i || D.staT (S14.take t) i) || (met V i && D.chg n 0 i)) = a1a D.fs.length fun i=>(D.outT c.outs i || D.staT (S14.take t) i) || (met (V ++ [(j:Int)]) i && D.chg n 0 i):=a0v fun k _=>by
        rw [b0c]
        by_cases hk:k = j
        ·subst hk;simp [hq]
        ·simp [hk]
       refine xq (by simp +decide only [go_sem]<;>rfl) ?_
       rw [e2]
       (repeat first|simp only [ww]|(apply xa;simp +decide only [go_sem,hch];rfl;kernel_rfl))
       show gcD _ _ _ _ = _
       (simp +decide only [go_sem,a02,a00,hIr,hrI]<;>rfl)<;>rfl
      | true=>
       rw [hq] at hch
       have e1:=b4i (q:=fun i=>(D.outT c.outs i || D.staT (S14.take t) i) || (met V i && D.chg n 0 i)) hj
       have e2:(a1a D.fs.length fun i=>(D.outT c.outs i || D.staT (S14.take t) i) || (met V i && D.chg n 0 i) || decide (i = j)) = a1a D.fs.length fun i=>(D.outT c.outs i || D.staT (S14.take t) i) || (met (V ++ [(j:Int)]) i && D.chg n 0 i):=a0v fun k _=>by
        rw [b0c]
        by_cases hk:k = j
        ·subst hk;simp [hq]
        ·simp [hk]
       rw [e2] at e1
       refine xq (by simp +decide only [go_sem]<;>rfl) ?_
       (repeat first|simp only [ww]|(apply xa;simp +decide only [go_sem,hch,e1];rfl;kernel_rfl))
       show gcD _ _ _ _ = _
       (simp +decide only [go_sem,a02,a00,hIr,hrI]<;>rfl)<;>rfl
     ·intro V hV
      have e:(a1a D.fs.length fun i=>(D.outT c.outs i || D.staT (S14.take t) i) || (met V i && D.chg n 0 i)) = a1a D.fs.length fun i=>D.outT c.outs i || D.staT (S14.take (t + 1)) i:=a0v fun k hk=>by
       rw [b7z hV hk]
       show _ = (D.outT c.outs k || (S14.take (t + 1)).any fun n=>D.chg n 0 k)
       rw [c4g hn,Bool.or_assoc]
       congr 2
       cases hq:D.chg n 0 k with
       | false=>simp
       | true=>rw [Ded.chg_sm (by rw [hE.ins hx];exact hx0) hq];rfl
      refine xq (by simp +decide only [go_sem]<;>rfl) ?_
      rw [e]
      (repeat first|simp only [ww]|(apply xa;simp +decide only [go_sem];rfl;kernel_rfl))
      exact ⟨rfl,rfl,rfl⟩
     ·(repeat first|simp only [ww]|(apply xa;simp +decide only [go_sem,hw];rfl;kernel_rfl))
      refine a1y (t + 1) ?_ (by omega) (by omega)
      (simp +decide only [go_sem,a02,a00,hIr,hrI]<;>rfl)<;>rfl
    ·obtain rfl:t = S14.length:=by omega
     have d1:¬ (S14.length:Int) < S14.length:=by omega
     rw [List.take_length]
     have hfin:=fun (R:a03)=>hfin (some (.uset (a1a D.fs.length fun i=>D.outT c.outs i || D.staT S14 i)) :: R) _ rfl
     have hrd:=b08 (a1a D.fs.length fun i=>D.outT c.outs i || D.staT S14 i)
     generalize dsV (a1a D.fs.length fun i=>D.outT c.outs i || D.staT S14 i) = RV at hfin hrd ⊢
     (repeat first|simp only [ww]|(apply xa;simp +decide only [go_sem,d1,hfin];rfl;kernel_rfl))
     refine a9b (vs:=[RV,.int .i64 0]) (by simp +decide only [go_sem]<;>rfl) (a9w (by simp only [a5g,b19,a0a,hrd,a54,d1x,List.append_nil]))
end
end Go.TInst
