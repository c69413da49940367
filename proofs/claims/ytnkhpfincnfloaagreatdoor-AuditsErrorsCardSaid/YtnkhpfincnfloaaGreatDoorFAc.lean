/- Part of a proof. No condition. -/
import Derived.Test.YtnkhpfincnfloaaGreatDoorFAu6
import Derived.Test.YtnkhpfincnfloaaGreatDoorAxD
set_option linter.unusedSimpArgs false
set_option linter.unusedVariables false
namespace Go.FInst
open Go.Proofs Go.Ax Go.Pc
set_option maxRecDepth 100000
/- whether a list contains a number: some answer -/
theorem idxI_ok(cp:Rep)(l:List Nat)(v:Nat)(hl:l.length<1000000):∃q:AV×Heap,(∃r:Int,q=(.int .i64 r,[]))∧sem L.env Mf 102 [sl cp (l.map intR),.int .i64 v] []=some q:=by
 (refine svE Tryz.f102 ?_;simp only[Tryz.f102,gS])
 (repeat first|simp only[ww]|(apply xa;simp+decide only[go_sem,List.length_map];rfl;kernel_rfl))
 refine xp_loop3 (σ:=Nat) kp102_0 (λi=>[(0,sl cp (l.map intR)),(1,.int .i64 v),(7,.int .i64 l.length),(8,.int .i64 i)]) (λ_=>[]) (λi=>l.length-i) (λi=>i≤l.length) 0 ?_ (Nat.zero_le _) ?_
 ·(simp+decide only[go_sem,gcD_eq,gcIds_eq]<;>rfl)
 ·intro i hi;by_cases hlt:i<l.length
  ·obtain⟨x,hx⟩:∃x,l[i]?=some x:=⟨_,List.getElem?_eq_getElem hlt⟩
   have c1:(i:Int)<l.length:=by omega
   have hw:=wI1 (n:=i) (by omega);by_cases hv:v=x
   ·have c2:(v:Int)=x:=by omega
    (repeat first|simp only[ww]|(apply xa;simp+decide only[go_sem,c1,c2,hlt,hx,hw,List.length_map];rfl;kernel_rfl))
    exact fqE_r (vs:=[.int .i64 i]) (r:=(_,_)) (by simp+decide only[go_sem]) (by simp+decide only[go_sem,finish]<;>rfl) ⟨_,rfl⟩
   ·have c2:¬(v:Int)=x:=by omega
    (repeat first|simp only[ww]|(apply xa;simp+decide only[go_sem,c1,c2,hlt,hx,hw,List.length_map];rfl;kernel_rfl))
    refine lp_n (i+1) ?_ (by omega) (by omega)
    (simp+decide only[go_sem,gcD_eq,gcIds_eq]<;>rfl)
  ·obtain rfl:i=l.length:=by omega
   have c1:¬(l.length:Int)<l.length:=by omega
   (repeat first|simp only[ww]|(apply xa;simp+decide only[go_sem,c1];rfl;kernel_rfl))
   exact fqE_r (vs:=[.int .i64 (-1)]) (r:=(_,_)) (by simp+decide only[go_sem]) (by simp+decide only[go_sem,finish]<;>rfl) ⟨_,rfl⟩
theorem contI_ok(cp:Rep)(l:List Nat)(v:Nat)(hl:l.length<1000000):∃b:Bool,sem L.env Mf 240 [sl cp (l.map intR),.int .i64 v] []=some (.bool b,[]):=by
 obtain⟨q,⟨r,rfl⟩,hs⟩:=idxI_ok cp l v hl;have hc:=λH=>callV_flat (E:=L.env) (draw:=false) (call:=sem L.env Mf) (g:=102) (fs:=[]) (cs:=[]) (ar:=[sl cp (l.map intR),.int .i64 v]) (H:=H) (by kernel_rfl) (by kernel_rfl) rfl (by simp only[go_sem,flat_i]) hs rfl;refine⟨decide (0≤r),?_⟩
 (refine sv Tryz.f240 ?_;simp only[Tryz.f240,gS])
 (repeat first|simp only[ww]|(apply xa;simp+decide only[go_sem,hc];rfl;kernel_rfl))
 (apply fqb;simp+decide only[go_sem]<;>rfl)
theorem contI_call(cp:Rep)(l:List Nat)(v:Nat)(hl:l.length<1000000):∃b:Bool,∀(d:Bool) (H:Heap),callV L.env d (sem L.env Mf) (.func (.func 240) [] []) [sl cp (l.map intR),.int .i64 v] H=some (.bool b,H,[]):=by obtain⟨b,hs⟩:=contI_ok cp l v hl;exact⟨b,λd H=>callV_flat (by kernel_rfl) (by kernel_rfl) rfl (by simp only[go_sem,flat_i]) hs rfl⟩
/- the numbers of the faults -/
def offT(nodes:List Nd):Nat→Nat
 |0=>0
 |i+1=>offT nodes i+2*((insAt nodes i).length+1)
def offL(nodes:List Nd)(i:Nat):List Nat:=(List.range i).map (offT nodes)
theorem offL_succ(nodes:List Nd)(i:Nat):offL nodes (i+1)=offL nodes i++[offT nodes i]:=by simp[offL,List.range_succ]
theorem offT_le{c:Cir}(h:c.wf):∀i,offT c.nodes i≤34*i
 |0=>Nat.le_refl _
 |i+1=>by have:=offT_le h i;have:=ins16 h (i:=i);simp only[offT];omega
theorem offT_mono{nodes:List Nd}{i j:Nat}(h:i≤j):offT nodes i≤offT nodes j:=by
 induction h with
 |refl=>exact Nat.le_refl _
 |step _ ih=>simp only[offT];omega
theorem offL_get{nodes:List Nd}{n i:Nat}(h:i<n):(offL nodes n)[i]?=some (offT nodes i):=by unfold offL;rw[List.getElem?_map,List.getElem?_range h];rfl
theorem offL_len(nodes:List Nd)(n:Nat):(offL nodes n).length=n:=by simp[offL]
/-- The first numbers told so far. -/
def gH(i:Nat)(Fs:List Nat):Heap:=match Fs with
 | []=>[some (.row 2 [[.nilslice,.nilslice]])]
 |a::r=>[some (.row 2 [[.slice 1 0 (r.length+1) none,.nilslice]]),some (.row 1 ((a::r).map intR))]
theorem gH_nil(i:Nat):gH i []=[some (.row 2 [[.nilslice,.nilslice]])]:=rfl
theorem gH_cons(i a:Nat)(r:List Nat):gH i (a::r)=[some (.row 2 [[.slice 1 0 (r.length+1) none,.nilslice]]),some (.row 1 ((a::r).map intR))]:=rfl
/-- The parents told so far. -/
def gP(N k:Nat):List Nat:=List.range k++List.replicate (N-k) 0
theorem gP_len{N k:Nat}(h:k≤N):(gP N k).length=N:=by simp[gP];omega
theorem gP_set{N k:Nat}(h:k<N):(gP N k).set k k=gP N (k+1):=by unfold gP;rw[List.set_append_right _ _ (by simp),List.length_range,Nat.sub_self,List.range_succ,show N-k=(N-(k+1))+1 by omega,List.replicate_succ,List.set_cons_zero];simp
theorem gP_end(N:Nat):gP N N=List.range N:=by simp[gP]
theorem grow_ok(c:Cir)(h:c.wf):sem L.env Mf 237 [.agg c.enc] []=some (.ptr 0 0 0,foH c.nodes.length (offL c.nodes c.nodes.length) (List.range (offT c.nodes c.nodes.length))):=by
 have hl:=h.len;have hpos:=h.pos;simp only[Cir.enc];refine svR Tryz.f237 ?_;simp only[Tryz.f237,gS]
 (repeat first|simp only[ww]|(apply xa;simp+decide only[go_sem];rfl;kernel_rfl))
 refine xp_loop3 (σ:=Nat) kp237_0 (λi=>[(3,.ptr 0 0 0),(4,.int .i64 (offT c.nodes i)),(11,sl c.nc (c.nodes.map Nd.enc)),(12,.int .i64 c.nodes.length),(13,.int .i64 i)])
  (λi=>gH i (offL c.nodes i)) (λi=>c.nodes.length-i) (λi=>i≤c.nodes.length) 0 ?_ (Nat.zero_le _) ?_
 ·have e:offL c.nodes 0=[]:=rfl
  (simp+decide only[go_sem,gcD_eq,gcIds_eq,e,gH_nil,offT]<;>rfl)
 ·intro i hi;by_cases hlt:i<c.nodes.length
  ·obtain⟨x,hx⟩:∃x,c.nodes[i]?=some x:=⟨_,List.getElem?_eq_getElem hlt⟩
   have c1:(i:Int)<c.nodes.length:=by omega
   have hw:=wI1 (n:=i) (by omega);have ho:=offT_le h i;have h16:=ins16 h (i:=i);rw[insAt_get hx]at h16;have hwx:=wI1 (n:=x.ins.length) (by omega);have hw2:IntKind.i64.wrap (2*((x.ins.length+1:Nat):Int))=((2*(x.ins.length+1):Nat):Int):=by rw[w64 (by omega) (by omega)];omega
   have hw3:IntKind.i64.wrap ((offT c.nodes i:Int)+((2*(x.ins.length+1):Nat):Int))=((offT c.nodes i+2*(x.ins.length+1):Nat):Int):=by rw[w64 (by omega) (by omega)];omega
   have hs:offT c.nodes (i+1)=offT c.nodes i+2*(x.ins.length+1):=by simp only[offT,insAt_get hx]
   have hs2:=offL_succ c.nodes i;have hlen:=offL_len c.nodes i;generalize offL c.nodes i=l at hs2 hlen;cases l with
   |nil=>
    (repeat first|simp only[ww]|(apply xa;simp+decide only[go_sem,c1,hlt,hx,hw,hwx,hw2,hw3,gH_nil,List.length_map];rfl;kernel_rfl))
    refine lp_n (i+1) ?_ (by omega) (by omega);rw[hs,hs2]
    (simp+decide only[go_sem,gcD_eq,gcIds_eq,List.nil_append,gH_cons,List.map_cons,List.map_nil,List.length_nil]<;>rfl)
   |cons a r=>
    simp only[List.length_cons]at hlen;have hrm:r.length+1+1≤1000000000:=by omega
    (repeat first|simp only[ww]|(apply xa;simp+decide only[go_sem,c1,hlt,hx,hw,hwx,hw2,hw3,gH_cons,hrm,List.length_map,List.map_cons,List.length_cons];rfl;kernel_rfl))
    refine lp_n (i+1) ?_ (by omega) (by omega);rw[hs,hs2]
    (simp+decide only[go_sem,gcD_eq,gcIds_eq,List.cons_append,gH_cons,List.map_cons,List.map_append,List.map_nil,List.length_append,List.length_cons,List.length_nil,flat_i,ren_i,List.flatMap_append]<;>rfl)
  ·obtain rfl:i=c.nodes.length:=by omega
   have c1:¬(c.nodes.length:Int)<c.nodes.length:=by omega
   have ho:=offT_le h c.nodes.length;have hlen:=offL_len c.nodes c.nodes.length;generalize hN:offT c.nodes c.nodes.length=N at *;generalize offL c.nodes c.nodes.length=l at hlen;cases l with
   |nil=>simp at hlen;omega
   |cons a r=>
    simp only[List.length_cons]at hlen;have hrm2:N≤1000000000:=by omega
    (repeat first|simp only[ww]|(apply xa;simp+decide only[go_sem,c1,gH_cons,List.map_cons,hrm2];rfl;kernel_rfl))
    have hrep:List.replicate N [AV.int .i64 0]=(gP N 0).map intR:=by unfold gP;rw[List.range_zero,List.nil_append,Nat.sub_zero,List.map_replicate];rfl
    have hfl:r.length+1=c.nodes.length:=hlen;refine xp_loop3 (σ:=Nat) kp237_2 (λk=>[(3,.ptr 0 0 0),(44,.int .i64 N),(45,.int .i64 k)])
     (λk=>[some (.row 2 [[.slice 1 0 (r.length+1) none,.slice 2 0 N (some N)]]),some (.row 1 ((a::r).map intR)),some (.row 1 ((gP N k).map intR))]) (λk=>N-k) (λk=>k≤N) 0 ?_ (Nat.zero_le _) ?_
    ·rw[←hrep]
     (simp+decide only[go_sem,gcD_eq,gcIds_eq,List.map_cons,flat_i,ren_i,List.length_replicate]<;>rfl)
    ·intro k hk;have hgl:=gP_len hk;by_cases hk2:k<N
     ·have c2:(k:Int)<N:=by omega
      have hw:=wI1 (n:=k) (by omega);have hkg:k<(gP N k).length:=by omega
      have hset:((gP N k).map intR).set k [.int .i64 k]=(gP N (k+1)).map intR:=by rw[←gP_set hk2,List.map_set];rfl
      obtain⟨y,hy⟩:∃y,(gP N k)[k]?=some y:=⟨_,List.getElem?_eq_getElem hkg⟩
      (repeat first|simp only[ww]|(apply xa;simp+decide only[go_sem,c2,hw,hk2,hkg,hgl,hset,hy,List.length_map,List.map_cons];rfl;kernel_rfl))
      refine lp_n (k+1) ?_ (by omega) (by omega)
      (simp+decide only[go_sem,gcD_eq,gcIds_eq,List.map_cons,flat_i,ren_i]<;>rfl)
     ·obtain rfl:k=N:=by omega
      have c2:¬(k:Int)<k:=by omega
      (repeat first|simp only[ww]|(apply xa;simp+decide only[go_sem,c2];rfl;kernel_rfl))
      refine fqR_r (vs:=[.ptr 0 0 0]) (by simp+decide only[go_sem]) ?_;rw[gP_end];unfold foH;rw[←hfl,List.length_range];rfl
/-- A forest behind one block. -/
theorem grow_call(c:Cir)(h:c.wf)(X0:Option AObj):callV L.env false (sem L.env Mf) (.func (.func 237) [] []) [.agg c.enc] [X0]=some (.ptr 1 0 0,[X0,some (.row 2 [[.slice 2 0 c.nodes.length none,.slice 3 0 (offT c.nodes c.nodes.length) (some (offT c.nodes c.nodes.length))]]),some (.row 1 ((offL c.nodes c.nodes.length).map intR)),some (.row 1 ((List.range (offT c.nodes c.nodes.length)).map intR))],[]):=by
 have hs:=grow_ok c h;unfold foH at hs;rw[List.length_range]at hs;have hc:=callLoc_eq (sem L.env Mf 237) [.agg c.enc] [X0] (σ:=[]) (by simp only[refsL_cons,refs_agg,Cir.enc,go_sem]) rfl rfl (args':=[.agg c.enc]) (by simp only[List.map_cons,List.map_nil,ren_cir]) (H0:=[]) rfl hs;unfold callV;dsimp only;have e1:L.env.ext 237=false:=by kernel_rfl
 have e2:(L.env.fn 237).isSome=true:=by kernel_rfl
 rw[e1,e2];simp only[cond_true,cond_false,List.nil_append,List.append_nil];rw[hc];simp+decide only[go_sem,ren_i]<;>rfl
def fqRE(E:Env)(results:List ResultVar)(P:AV×Heap→Prop):Post:=λe F H=>match e with
 |.exit _=>False
 |_=>∃vs,aresults E F H results=some vs∧P (oneOf vs,H)
theorem fqRE_r{E:Env}{results:List ResultVar}{P:AV×Heap→Prop}{F:Frm}{H:Heap}{vs:List AV}(h1:aresults E F H results=some vs)(h2:P (oneOf vs,H)):fqRE E results P .ret F H:=⟨vs,h1,h2⟩
theorem svRE{E:Env}{M:List Fact}{g:FuncId}{args:List AV}{H:Heap}{P:AV×Heap→Prop}(f:Func)(h:Wp (cx E M H.length f.ntmps g 0) (f.body.getD .skip) (entryF 0 args) H (fqRE E f.results.toList P))(hfn:E.fn g=some ⟨f.body.getD .skip,f.ntmps,f.results.toList⟩:=by kernel_rfl)
 (hno:(M.all λy=>!Nat.beq y.g g)=true:=by rfl)(hN:Nat.ble args.length f.ntmps=true:=by rfl)(hp:E.prim g args=none:=by rfl)(hz:E.zf g=false:=by rfl)(hw:E.raw g=true:=by rfl):∃r,P r∧sem E M g args H=some r:=by
 obtain⟨e,F',H',h1,h2⟩:=wp_ev _ h;have hno':∀y∈M,y.g≠g:=λy hy e=>by have:=List.all_eq_true.1 hno y hy;rw[e]at this;simp at this
 cases e with
 |normal=>obtain⟨vs,h3,h4⟩:=h2;exact⟨_,h4,sem_evR hfn hno' hN h1 (λ_ h=>by cases h) h3 hp hz hw⟩
 |ret=>obtain⟨vs,h3,h4⟩:=h2;exact⟨_,h4,sem_evR hfn hno' hN h1 (λ_ h=>by cases h) h3 hp hz hw⟩
 |exit id=>exact h2.elim
/- the forest behind one block -/
section
variable {f N:Nat}{Fs P:List Nat}{X0 X4 X5:Option AObj}(hN:P.length=N)(hf:f=Fs.length)(hl:N<1000000)
include hN hf hl
theorem at_T0{n o:Nat}(hn:Fs[n]?=some o)(ho:o<100000){p:Int}(h1:-1≤p)(h2:p≤100){v z:Nat}(hv:v≤1)(hz:(z:Int)=o+2*(p+1)+v)(d:Bool) :
 callV L.env d (sem L.env Mf) (.func (.func 180) [] []) [.ptr 1 0 0,.int .i64 n,.int .i64 p,.int .u8 v] [X0,some (.row 2 [[.slice 2 0 f none,.slice 3 0 N (some N)]]),some (.row 1 (Fs.map intR)),some (.row 1 (P.map intR))]=some (.int .i64 z,[X0,some (.row 2 [[.slice 2 0 f none,.slice 3 0 N (some N)]]),some (.row 1 (Fs.map intR)),some (.row 1 (P.map intR))],[1,2,3]):=by
 have hs:=at_ok f Fs P n o hn ho p h1 h2 v hv (by omega) hf;unfold foH at hs;rw[hN,←hz]at hs;refine callV_eq (by kernel_rfl) (by kernel_rfl) rfl ((callLoc_eq (sem L.env Mf 180) [.ptr 1 0 0,.int .i64 n,.int .i64 p,.int .u8 v] _ (σ:=[1,2,3]) (by simp+decide only[go_sem,flat_i]) rfl rfl (args':=[.ptr 0 0 0,.int .i64 n,.int .i64 p,.int .u8 v]) rfl (H0:=_) (by simp+decide only[go_sem,ren_i]<;>rfl) hs).trans ?_) rfl;simp+decide only[go_sem,ren_i]<;>rfl
theorem at_T2{n o:Nat}(hn:Fs[n]?=some o)(ho:o<100000){p:Int}(h1:-1≤p)(h2:p≤100){v z:Nat}(hv:v≤1)(hz:(z:Int)=o+2*(p+1)+v)(d:Bool) :
 callV L.env d (sem L.env Mf) (.func (.func 180) [] []) [.ptr 1 0 0,.int .i64 n,.int .i64 p,.int .u8 v] [X0,some (.row 2 [[.slice 2 0 f none,.slice 3 0 N (some N)]]),some (.row 1 (Fs.map intR)),some (.row 1 (P.map intR)),X4,X5]=some (.int .i64 z,[X0,some (.row 2 [[.slice 2 0 f none,.slice 3 0 N (some N)]]),some (.row 1 (Fs.map intR)),some (.row 1 (P.map intR)),X4,X5],[1,2,3]):=by
 have hs:=at_ok f Fs P n o hn ho p h1 h2 v hv (by omega) hf;unfold foH at hs;rw[hN,←hz]at hs;refine callV_eq (by kernel_rfl) (by kernel_rfl) rfl ((callLoc_eq (sem L.env Mf 180) [.ptr 1 0 0,.int .i64 n,.int .i64 p,.int .u8 v] _ (σ:=[1,2,3]) (by simp+decide only[go_sem,flat_i]) rfl rfl (args':=[.ptr 0 0 0,.int .i64 n,.int .i64 p,.int .u8 v]) rfl (H0:=_) (by simp+decide only[go_sem,ren_i]<;>rfl) hs).trans ?_) rfl;simp+decide only[go_sem,ren_i]<;>rfl
omit hf in
theorem join_T0{r:Nat→Nat}(hP:Par r P){a b:Nat}(ha:a<N)(hb:b<N):∃(r':Nat→Nat) (P':List Nat),P'.length=N∧Par r' P'∧∀(d:Bool) (X0:Option AObj),
 callV L.env d (sem L.env Mf) (.func (.func 239) [] []) [.ptr 1 0 0,.int .i64 a,.int .i64 b] [X0,some (.row 2 [[.slice 2 0 f none,.slice 3 0 N (some N)]]),some (.row 1 (Fs.map intR)),some (.row 1 (P.map intR))]=some (.tuple [],[X0,some (.row 2 [[.slice 2 0 f none,.slice 3 0 N (some N)]]),some (.row 1 (Fs.map intR)),some (.row 1 (P'.map intR))],[1,2,3]):=by
 obtain⟨r',P',h1,h2,hs⟩:=join_call (f:=f) (Fs:=Fs) hP (by omega) (a:=a) (b:=b) (by omega) (by omega);refine⟨r',P',by omega,h2,λd X0=>?_⟩;unfold foH at hs;rw[h1,hN]at hs;refine callV_eq (by kernel_rfl) (by kernel_rfl) rfl ((callLoc_eq (sem L.env Mf 239) [.ptr 1 0 0,.int .i64 a,.int .i64 b] _ (σ:=[1,2,3]) (by simp+decide only[go_sem,flat_i]) rfl rfl (args':=[.ptr 0 0 0,.int .i64 a,.int .i64 b]) rfl (H0:=_) (by simp+decide only[go_sem,ren_i]<;>rfl) hs).trans ?_) rfl;simp+decide only[go_sem,ren_i]<;>rfl
omit hf in
theorem join_T2{r:Nat→Nat}(hP:Par r P){a b:Nat}(ha:a<N)(hb:b<N):∃(r':Nat→Nat) (P':List Nat),P'.length=N∧Par r' P'∧∀(d:Bool) (X0 X4 X5:Option AObj),
 callV L.env d (sem L.env Mf) (.func (.func 239) [] []) [.ptr 1 0 0,.int .i64 a,.int .i64 b] [X0,some (.row 2 [[.slice 2 0 f none,.slice 3 0 N (some N)]]),some (.row 1 (Fs.map intR)),some (.row 1 (P.map intR)),X4,X5]=some (.tuple [],[X0,some (.row 2 [[.slice 2 0 f none,.slice 3 0 N (some N)]]),some (.row 1 (Fs.map intR)),some (.row 1 (P'.map intR)),X4,X5],[1,2,3]):=by
 obtain⟨r',P',h1,h2,hs⟩:=join_call (f:=f) (Fs:=Fs) hP (by omega) (a:=a) (b:=b) (by omega) (by omega);refine⟨r',P',by omega,h2,λd X0 X4 X5=>?_⟩;unfold foH at hs;rw[h1,hN]at hs;refine callV_eq (by kernel_rfl) (by kernel_rfl) rfl ((callLoc_eq (sem L.env Mf 239) [.ptr 1 0 0,.int .i64 a,.int .i64 b] _ (σ:=[1,2,3]) (by simp+decide only[go_sem,flat_i]) rfl rfl (args':=[.ptr 0 0 0,.int .i64 a,.int .i64 b]) rfl (H0:=_) (by simp+decide only[go_sem,ren_i]<;>rfl) hs).trans ?_) rfl;simp+decide only[go_sem,ren_i]<;>rfl
end
theorem ruV_sl(R:List (Nat×Nat)):∃q,ruV R=sl q (R.map ruR):=by
 cases R with
 |nil=>exact⟨none,rfl⟩
 |cons a r=>exact⟨some (some (r.length+1)),rfl⟩
theorem equal_call{d:Bool}(H:Heap)(x:Nd)(hk:x.kind≤14):callV L.env d (sem L.env Mf) (.func (.func 238) [] []) [.agg (Nd.enc x)] H=some (ruV (eqRu x.kind x.ins.length),H,[]):=by
 refine callV_flat (by kernel_rfl) (by kernel_rfl) rfl ?_ (equal_ok x.c x.ins x.mem x.bit x.kind hk) ?_
 ·simp only[Nd.enc,go_sem,flat_i]
 ·obtain⟨q,hq⟩:=ruV_sl (eqRu x.kind x.ins.length);rw[hq];exact refs_sl _ _
theorem merged_ok(c:Cir)(h:c.wf):∃q:AV×Heap,(∃(Fs P:List Nat) (N:Nat),q=(.ptr 1 0 0,[some (.row 4 [[sl c.nc (c.nodes.map Nd.enc),sl c.mc (c.names.map strR),.nilslice,sl c.oc (c.outs.map intR)]]),some (.row 2 [[.slice 2 0 c.nodes.length none,.slice 3 0 N (some N)]]),some (.row 1 (Fs.map intR)),some (.row 1 (P.map intR))])∧Fs.length=c.nodes.length∧P.length=N)∧sem L.env Mf 178 [.agg c.enc] []=some q:=by
 have hl:=h.len;have hgr:=grow_call c h;have hoff:=offT_le h c.nodes.length;have hFl:=offL_len c.nodes c.nodes.length;have hFg:=λ(i:Nat) (hi:i<c.nodes.length)=>offL_get (nodes:=c.nodes) hi;have hmono:=λ(i:Nat) (hi:i<c.nodes.length)=>offT_mono (nodes:=c.nodes) (i:=i+1) (j:=c.nodes.length) hi;have hPr:=Par.range (offT c.nodes c.nodes.length);have hPl:(List.range (offT c.nodes c.nodes.length)).length=offT c.nodes c.nodes.length:=List.length_range;have hob:=λi=>offT_le h i;generalize offT c.nodes c.nodes.length=N at *;generalize offL c.nodes c.nodes.length=Fs at *;simp only[Cir.enc]at hgr⊢;refine svRE Tryz.f178 ?_;simp only[Tryz.f178,gS]
 (repeat first|simp only[ww]|(apply xa;simp+decide only[go_sem,hgr];rfl;kernel_rfl))
 refine xp_lp kp178_0 (λq F H1=>∃(i:Nat) (d:Nat→Nat) (P:List Nat),q=c.nodes.length-i∧i≤c.nodes.length∧P.length=N∧Par d P∧F=[(1,.ptr 0 0 0),(3,.ptr 1 0 0),(15,sl c.nc (c.nodes.map Nd.enc)),(16,.int .i64 c.nodes.length),(17,.int .i64 i)]∧H1=[some (.row 4 [[sl c.nc (c.nodes.map Nd.enc),sl c.mc (c.names.map strR),.nilslice,sl c.oc (c.outs.map intR)]]),some (.row 2 [[.slice 2 0 c.nodes.length none,.slice 3 0 N (some N)]]),some (.row 1 (Fs.map intR)),some (.row 1 (P.map intR))]) c.nodes.length ?_ ?_
 ·exact⟨_,_,by(simp+decide only[go_sem,gcD_eq,gcIds_eq,flat_i,ren_i]<;>rfl),0,_,List.range N,rfl,Nat.zero_le _,hPl,hPr,rfl,rfl⟩
 ·rintro q F H1 ⟨i,d,P,rfl,hi,hP,hd,rfl,rfl⟩
  by_cases hlt:i<c.nodes.length
  ·obtain⟨x,hx⟩:∃x,c.nodes[i]?=some x:=⟨_,List.getElem?_eq_getElem hlt⟩
   have c1:(i:Int)<c.nodes.length:=by omega
   have hw:=wI1 (n:=i) (by omega);have hk:=h.kind x (List.mem_of_getElem? hx);have heq:=λH=>equal_call (d:=false) H x hk;obtain⟨hR2,hRr⟩:=eqRu_ok x.kind hk x.ins.length;obtain⟨rq,hrq⟩:=ruV_sl (eqRu x.kind x.ins.length);rw[hrq]at heq;simp only[Nd.enc]at heq;have h16:=ins16 h (i:=i);rw[insAt_get hx]at h16;have hsucc:offT c.nodes (i+1)=offT c.nodes i+2*(x.ins.length+1):=by simp only[offT,insAt_get hx]
   have hm:=hmono i hlt;generalize eqRu x.kind x.ins.length=R at heq hR2 hRr
   (repeat first|simp only[ww]|(apply xa;simp+decide only[go_sem,c1,hlt,hx,heq];rfl;kernel_rfl))
   refine xp_lp kp178_2 (λq F H1=>∃(j:Nat) (d:Nat→Nat) (P:List Nat),q=R.length-j∧j≤R.length∧P.length=N∧Par d P∧F=[(1,.ptr 0 0 0),(3,.ptr 1 0 0),(4,.int .i64 i),(5,.ptr 4 0 0),(15,sl c.nc (c.nodes.map Nd.enc)),(16,.int .i64 c.nodes.length),(17,.int .i64 i),(23,sl rq (R.map ruR)),(24,.int .i64 R.length),(25,.int .i64 j)]∧H1=[some (.row 4 [[sl c.nc (c.nodes.map Nd.enc),sl c.mc (c.names.map strR),.nilslice,sl c.oc (c.outs.map intR)]]),some (.row 2 [[.slice 2 0 c.nodes.length none,.slice 3 0 N (some N)]]),some (.row 1 (Fs.map intR)),some (.row 1 (P.map intR)),some (.row 4 [Nd.enc x])]) R.length ?_ ?_
   ·exact⟨_,_,by(simp+decide only[go_sem,gcD_eq,gcIds_eq,flat_i,ren_i,List.length_map]<;>rfl),0,d,P,rfl,Nat.zero_le _,hP,hd,rfl,rfl⟩
   ·rintro q F H1 ⟨j,d,P,rfl,hj,hP,hd,rfl,rfl⟩
    by_cases hj2:j<R.length
    ·obtain⟨r,hr⟩:∃r,R[j]?=some r:=⟨_,List.getElem?_eq_getElem hj2⟩
     obtain⟨hr1,hr2⟩:=hRr r (List.mem_of_getElem? hr);have c2:(j:Int)<R.length:=by omega
     have hwj:=wI1 (n:=j) (by omega)
     (repeat first|simp only[ww]|(apply xa;simp+decide only[go_sem,c2,hj2,hr,ruR,List.length_map];rfl;kernel_rfl))
     refine xp_lp kp178_4 (λq F H1=>∃(k:Nat) (d:Nat→Nat) (P:List Nat),q=x.ins.length-k∧k≤x.ins.length∧P.length=N∧Par d P∧F=[(1,.ptr 0 0 0),(3,.ptr 1 0 0),(4,.int .i64 i),(5,.ptr 4 0 0),(7,.ptr 5 0 0),(15,sl c.nc (c.nodes.map Nd.enc)),(16,.int .i64 c.nodes.length),(17,.int .i64 i),(23,sl rq (R.map ruR)),(24,.int .i64 R.length),(25,.int .i64 j),(31,.int .i64 x.ins.length),(32,.int .i64 k)]∧H1=[some (.row 4 [[sl c.nc (c.nodes.map Nd.enc),sl c.mc (c.names.map strR),.nilslice,sl c.oc (c.outs.map intR)]]),some (.row 2 [[.slice 2 0 c.nodes.length none,.slice 3 0 N (some N)]]),some (.row 1 (Fs.map intR)),some (.row 1 (P.map intR)),some (.row 4 [Nd.enc x]),some (.row 2 [ruR r])]) x.ins.length ?_ ?_
     ·exact⟨_,_,by(simp+decide only[go_sem,gcD_eq,gcIds_eq,flat_i,ren_i,List.length_map,ruR]<;>rfl),0,d,P,rfl,Nat.zero_le _,hP,hd,rfl,rfl⟩
     ·rintro q F H1 ⟨k,d,P,rfl,hk',hP,hd,rfl,rfl⟩
      by_cases hk2:k<x.ins.length
      ·have c3:(k:Int)<x.ins.length:=by omega
       have hwk:=wI1 (n:=k) (by omega);have a1:=λX0 X4 X5=>at_T2 (X0:=X0) (X4:=X4) (X5:=X5) hP hFl.symm (by omega) (hFg i hlt) (by have:=hob i;omega) (p:=(k:Int)) (by omega) (by omega) (v:=r.1) (z:=offT c.nodes i+2*(k+1)+r.1) hr1 (by omega) true;have a2:=λX0 X4 X5=>at_T2 (X0:=X0) (X4:=X4) (X5:=X5) hP hFl.symm (by omega) (hFg i hlt) (by have:=hob i;omega) (p:=-1) (by omega) (by omega) (v:=r.2) (z:=offT c.nodes i+r.2) hr2 (by omega) true;obtain⟨d',P',j1,j2,j3⟩:=join_T2 (f:=c.nodes.length) (Fs:=Fs) hP (by omega) hd (a:=offT c.nodes i+2*(k+1)+r.1) (b:=offT c.nodes i+r.2) (by omega) (by omega);have j3:=j3 true
       (repeat first|simp only[ww]|(apply xa;simp+decide only[go_sem,c3,a1,a2,j3,hwk,ruR,List.length_map];rfl;kernel_rfl))
       exact lpJ_n (x.ins.length-(k+1)) (by omega) ⟨_,_,by(simp+decide only[go_sem,gcD_eq,gcIds_eq,flat_i,ren_i,ruR]<;>rfl),k+1,d',P',rfl,by omega,j1,j2,rfl,rfl⟩
      ·obtain rfl:k=x.ins.length:=by omega
       have c3:¬(x.ins.length:Int)<x.ins.length:=by omega
       (repeat first|simp only[ww]|(apply xa;simp+decide only[go_sem,c3,hwj];rfl;kernel_rfl))
       exact lpJ_n (R.length-(j+1)) (by omega) ⟨_,_,by(simp+decide only[go_sem,gcD_eq,gcIds_eq,flat_i,ren_i]<;>rfl),j+1,d,P,rfl,by omega,hP,hd,rfl,rfl⟩
    ·obtain rfl:j=R.length:=by omega
     have c2:¬(R.length:Int)<R.length:=by omega
     (repeat first|simp only[ww]|(apply xa;simp+decide only[go_sem,c2,hw];rfl;kernel_rfl))
     exact lpJ_n (c.nodes.length-(i+1)) (by omega) ⟨_,_,by(simp+decide only[go_sem,gcD_eq,gcIds_eq,flat_i,ren_i]<;>rfl),i+1,d,P,rfl,by omega,hP,hd,rfl,rfl⟩
  ·obtain rfl:i=c.nodes.length:=by omega
   have c1:¬(c.nodes.length:Int)<c.nodes.length:=by omega
   obtain⟨fo,hfo,hfan⟩:=fanout_call c h;have hfan:=λH=>hfan false H;simp only[Cir.enc]at hfan;have hfl:=hfo.len;have hfrl:(foR c fo).length=c.nodes.length:=by unfold foR;rw[List.length_mapIdx,foE_len,hfl]
   (repeat first|simp only[ww]|(apply xa;simp+decide only[go_sem,c1,hfan,hfrl];rfl;kernel_rfl))
   refine xp_lp kp178_6 (λq F H1=>∃(i:Nat) (d:Nat→Nat) (P:List Nat),q=c.nodes.length-i∧i≤c.nodes.length∧P.length=N∧Par d P∧F=[(1,.ptr 0 0 0),(3,.ptr 1 0 0),(52,.islice (foR c fo) (some c.nodes.length)),(53,.int .i64 c.nodes.length),(54,.int .i64 i)]∧H1=[some (.row 4 [[sl c.nc (c.nodes.map Nd.enc),sl c.mc (c.names.map strR),.nilslice,sl c.oc (c.outs.map intR)]]),some (.row 2 [[.slice 2 0 c.nodes.length none,.slice 3 0 N (some N)]]),some (.row 1 (Fs.map intR)),some (.row 1 (P.map intR))]) c.nodes.length ?_ ?_
   ·exact⟨_,_,by(simp+decide only[go_sem,gcD_eq,gcIds_eq,flat_i,ren_i]<;>rfl),0,d,P,rfl,Nat.zero_le _,hP,hd,rfl,rfl⟩
   ·rintro q F H1 ⟨n,d,P,rfl,hn,hP,hd,rfl,rfl⟩
    by_cases hlt2:n<c.nodes.length
    ·have c2:(n:Int)<c.nodes.length:=by omega
     have hwn:=wI1 (n:=n) (by omega);obtain⟨LL,hL⟩:∃LL,fo[n]?=some LL:=⟨_,List.getElem?_eq_getElem (by omega)⟩
     have hg:=foR_get hL hlt2;have hlt3:n<(foR c fo).length:=by omega
     have hnode:=hfo.node hL (Nat.le_refl _);have hpin:=hfo.pin n LL hL;obtain⟨b,hb⟩:=contI_call c.oc c.outs n (by have:=h.outl;omega);have hb:=λH=>hb false H;cases LL with
     |nil=>
      simp only[List.map_nil,slF]at hg
      (repeat first|simp only[ww]|(apply xa;simp+decide only[go_sem,c2,hlt2,hlt3,hg,hwn];rfl;kernel_rfl))
      exact lpJ_n (c.nodes.length-(n+1)) (by omega) ⟨_,_,by(simp+decide only[go_sem,gcD_eq,gcIds_eq,flat_i,ren_i]<;>rfl),n+1,d,P,rfl,by omega,hP,hd,rfl,rfl⟩
     |cons l0 rest=>
      cases rest with
      |cons l1 rest=>
       simp only[List.map_cons,slF,List.length_cons]at hg;have c3:¬((rest.length+1+1:Nat):Int)=1:=by omega
       have c4:¬((rest.length:Int)+1+1)=1:=by omega
       (repeat first|simp only[ww]|(apply xa;simp+decide only[go_sem,c2,c3,c4,hlt2,hlt3,hg,hwn,List.length_cons,List.length_map];rfl;kernel_rfl))
       exact lpJ_n (c.nodes.length-(n+1)) (by omega) ⟨_,_,by(simp+decide only[go_sem,gcD_eq,gcIds_eq,flat_i,ren_i]<;>rfl),n+1,d,P,rfl,by omega,hP,hd,rfl,rfl⟩
      |nil=>
       simp only[List.map_cons,List.map_nil,slF,List.length_cons,List.length_nil]at hg;cases b with
       |true=>
        (repeat first|simp only[ww]|(apply xa;simp+decide only[go_sem,c2,hlt2,hlt3,hg,hb,hwn,List.length_cons,List.length_nil];rfl;kernel_rfl))
        exact lpJ_n (c.nodes.length-(n+1)) (by omega) ⟨_,_,by(simp+decide only[go_sem,gcD_eq,gcIds_eq,flat_i,ren_i]<;>rfl),n+1,d,P,rfl,by omega,hP,hd,rfl,rfl⟩
       |false=>
        (repeat first|simp only[ww]|(apply xa;simp+decide only[go_sem,c2,hlt2,hlt3,hg,hb,hwn,List.length_cons,List.length_nil];rfl;kernel_rfl))
        have hn0:=hnode l0 (List.mem_cons_self ..);have hp0:=hpin l0 (List.mem_cons_self ..);have hm0:=hmono l0.1 hn0;have hmn:=hmono n hlt2;have h16:=ins16 h (i:=l0.1);simp only[offT]at hm0 hmn;refine xp_lp kp178_8 (λq F H1=>∃(v:Nat) (d:Nat→Nat) (P:List Nat),q=2-v∧v≤2∧P.length=N∧Par d P∧F=[(1,.ptr 0 0 0),(3,.ptr 1 0 0),(9,.int .i64 n),(10,.islice [lineR l0] (some 1)),(11,.int .u8 v),(52,.islice (foR c fo) (some c.nodes.length)),(53,.int .i64 c.nodes.length),(54,.int .i64 n)]∧H1=[some (.row 4 [[sl c.nc (c.nodes.map Nd.enc),sl c.mc (c.names.map strR),.nilslice,sl c.oc (c.outs.map intR)]]),some (.row 2 [[.slice 2 0 c.nodes.length none,.slice 3 0 N (some N)]]),some (.row 1 (Fs.map intR)),some (.row 1 (P.map intR))]) 2 ?_ ?_
        ·exact⟨_,_,by(simp+decide only[go_sem,gcD_eq,gcIds_eq,flat_i,ren_i,lineR]<;>rfl),0,d,P,rfl,Nat.zero_le _,hP,hd,rfl,rfl⟩
        ·rintro q F H1 ⟨v,d,P,rfl,hv,hP,hd,rfl,rfl⟩
         by_cases hv1:v≤1
         ·have c3:(v:Int)≤1:=by omega
          have hwv:IntKind.u8.wrap ((v:Int)+1)=((v+1:Nat):Int):=by
           have:v=0∨v=1:=by omega
           rcases this with rfl|rfl<;>rfl
          have a1:=λX0=>at_T0 (X0:=X0) hP hFl.symm (by omega) (hFg n hlt2) (by have:=hob n;omega) (p:=-1) (by omega) (by omega) (v:=v) (z:=offT c.nodes n+v) hv1 (by omega) true;have a2:=λX0=>at_T0 (X0:=X0) hP hFl.symm (by omega) (hFg l0.1 hn0) (by have:=hob l0.1;omega) (p:=(l0.2:Int)) (by omega) (by omega) (v:=v) (z:=offT c.nodes l0.1+2*(l0.2+1)+v) hv1 (by omega) true;obtain⟨d',P',j1,j2,j3⟩:=join_T0 (f:=c.nodes.length) (Fs:=Fs) hP (by omega) hd (a:=offT c.nodes n+v) (b:=offT c.nodes l0.1+2*(l0.2+1)+v) (by omega) (by omega);have j3:=j3 true;have hra:Ax.rowAt [[AV.int .i64 l0.1,AV.int .i64 l0.2]] 0=some [AV.int .i64 l0.1,AV.int .i64 l0.2]:=rfl
          (repeat first|simp only[ww]|(apply xa;simp+decide only[go_sem,c3,a1,a2,j3,hwv,hra,lineR];rfl;kernel_rfl))
          exact lpJ_n (2-(v+1)) (by omega) ⟨_,_,by(simp+decide only[go_sem,gcD_eq,gcIds_eq,flat_i,ren_i,lineR]<;>rfl),v+1,d',P',rfl,by omega,j1,j2,rfl,rfl⟩
         ·have c3:¬(v:Int)≤1:=by omega
          (repeat first|simp only[ww]|(apply xa;simp+decide only[go_sem,c3,hwn];rfl;kernel_rfl))
          exact lpJ_n (c.nodes.length-(n+1)) (by omega) ⟨_,_,by(simp+decide only[go_sem,gcD_eq,gcIds_eq,flat_i,ren_i]<;>rfl),n+1,d,P,rfl,by omega,hP,hd,rfl,rfl⟩
    ·obtain rfl:n=c.nodes.length:=by omega
     have c2:¬(c.nodes.length:Int)<c.nodes.length:=by omega
     (repeat first|simp only[ww]|(apply xa;simp+decide only[go_sem,c2];rfl;kernel_rfl))
     exact fqRE_r (vs:=[.ptr 1 0 0]) (by simp+decide only[go_sem]) ⟨Fs,P,N,rfl,hFl,hP⟩
end Go.FInst
