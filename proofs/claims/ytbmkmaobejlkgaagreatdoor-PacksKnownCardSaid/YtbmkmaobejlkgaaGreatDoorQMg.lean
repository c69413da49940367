/- Part of a proof. No condition. -/
import Derived.Test.YtbmkmaobejlkgaaGreatDoorQPk
import Derived.Test.YtbmkmaobejlkgaaGreatDoorAxD
set_option linter.unusedSimpArgs false
set_option linter.unusedVariables false
namespace Go.QInst
open Go.Proofs Go.Ax Go.Pc
set_option maxRecDepth 100000
structure Cb where
 ci:Option (Option Nat)
 ins:List Nat
 cs:Option (Option Nat)
 sts:List Nat
def Cb.cells(p:Cb):List AV:=[sl p.ci (p.ins.map u8R),sl p.cs (p.sts.map u8R)]
def Cb.enc(p:Cb):AV:=.agg p.cells
def Cb.all(p:Cb):List Nat:=p.ins++p.sts
theorem d24(p:Cb):sem L.env Mf 51 [p.enc] []=some (.func (.func 100) [] [.iptr p.cells],[]):=by
 unfold Cb.enc Cb.cells
 (refine sv Tryz.f51 ?_;simp only[Tryz.f51,gS])
 (repeat first|simp only[ww]|(apply xa;simp+decide only[go_sem];rfl;kernel_rfl))
 (apply fqb;simp+decide only[go_sem,a0j]<;>rfl)
theorem b5p{d:Bool}(H:a04)(p:Cb):a0d L.env d (sem L.env Mf) (.func (.func 51) [] []) [p.enc] H=some (.func (.func 100) [] [.iptr p.cells],H,[]):=a07 (by kernel_rfl) (by kernel_rfl) rfl (by unfold Cb.enc Cb.cells;simp+decide only[go_sem]) (d24 p) (by unfold Cb.cells;simp+decide only[go_sem])
theorem c3k(p:Cb)(hl:p.ins.length+p.sts.length<100000)(Hs:Nat→a04)(m:Nat)(hlen:∀i,(Hs i).length=m)(h0:0<m)(hlow:∀i b,∀c∈a0k (a01 (Hs i) b),c<m)(hsum:∀i,((Hs i).flatMap a0k).length<100000)
 (hstep:∀(i v:Nat),p.all[i]?=some v→∃σ,∀d,a0d L.env d (sem L.env Mf) (.yfn 0) [.int .i64 i,.iptr [.int .u8 v]] (Hs i)=some (.bool true,Hs (i+1),σ)) :
 sem L.env Mf 100 [.yfn 0,.iptr p.cells] (Hs 0)=some (.tuple [],Hs (p.ins.length+p.sts.length)):=by
 have hone:a2p [] = .tuple []:=rfl;have hstep1:∀(i v:Nat),p.ins[i]?=some v→∃σ,∀d,a0d L.env d (sem L.env Mf) (.yfn 0) [.int .i64 i,.iptr [.int .u8 v]] (Hs i)=some (.bool true,Hs (i+1),σ):=λi v h=>hstep i v (by unfold Cb.all;rw[List.getElem?_append_left (List.getElem?_eq_some_iff.1 h).1];exact h);have hstep2:∀(i v:Nat),p.sts[i]?=some v→∃σ,∀d,a0d L.env d (sem L.env Mf) (.yfn 0) [.int .i64 (p.ins.length+i:Nat),.iptr [.int .u8 v]] (Hs (p.ins.length+i))=some (.bool true,Hs (p.ins.length+i+1),σ):=λi v h=>hstep (p.ins.length+i) v (by unfold Cb.all;rw[List.getElem?_append_right (by omega),Nat.add_sub_cancel_left];exact h);have hmm:=(hlen 0).symm
 suffices hs:∃r:AV×a04,(r=(.tuple [],Hs (p.ins.length+p.sts.length)))∧sem L.env Mf 100 [.yfn 0,.iptr p.cells] (Hs 0)=some r by obtain⟨r,rfl,h3⟩:=hs;exact h3
 obtain⟨ci,ins,cs,sts⟩:=p;unfold Cb.cells;simp only at hl hstep1 hstep2⊢;have hgc:∀i (keep:List Nat) (F F':Frm),a1l keep F=F'→a0a (F'.map (·.2))=[0]→gcD m keep F (Hs i)=some (F',Hs i):=λi keep F F' hk hF=>c7l (hlen i).symm hk (by rw[hF];intro b hb;simp at hb;rw[hb,hlen];exact h0) (by rw[hF];simp) (λb c hc=>by rw[hlen];exact hlow i b c hc) (hsum i);have hfin:∀i,a0j false m (.tuple []) (Hs i)=some (.tuple [],Hs i):=by
  intro i;simp only[a0j,cond_false];have hz:a23 m true (a3v (a01 (Hs i)) m 12) (.tuple [])=some (.tuple []):=by rfl
  rw[hz];simp only
  congr 2
  rw[←hlen i,List.take_length];apply List.ext_getElem (by simp);intro b h1 h2;simp only[List.getElem_map];cases ho:(Hs i)[b]with
  |none=>rfl
  |some o=>
   have hob:a01 (Hs i) b=some o:=by unfold a01;rw[z9e h2,ho];rfl
   simp only[Option.map_some];rw[a7h (m:=m) (λc hc=>by rw[hlen i];unfold a13;rw[c1t,decide_eq_true hc];rfl) o (λc hc=>hlow i b c (by rw[hob];exact hc))]
 (refine svE Tryz.f100 ?_;simp only[Tryz.f100,gS])
 rw[hlen 0]
 (repeat first|simp only[ww]|(apply xa;simp+decide only[go_sem,List.length_map];rfl;kernel_rfl))
 refine a0t kp100_0 (λq F H1=>∃i:Nat,q=ins.length-i∧i≤ins.length∧F=[(0,.yfn 0),(1,.iptr [sl ci (ins.map u8R),sl cs (sts.map u8R)]),(7,.int .i64 ins.length),(8,.int .i64 i)]∧H1=Hs i) ins.length ?_ ?_
 ·exact⟨_,_,hgc 0 _ _ _ (by simp+decide only[go_sem]<;>rfl) (by simp+decide only[go_sem]),0,rfl,Nat.zero_le _,rfl,rfl⟩
 ·rintro q F H1 ⟨i,rfl,hi,rfl,rfl⟩
  by_cases hlt:i<ins.length
  ·obtain⟨v,hv⟩:∃v,ins[i]?=some v:=⟨_,z9e hlt⟩
   obtain⟨σ,hst⟩:=hstep1 i v hv;have hst:=hst false;have hg:(ins.map u8R)[i]?=some [.int .u8 v]:=by rw[List.getElem?_map,hv];rfl
   have c1:(i:Int)<ins.length:=by omega
   have hw:=wI1 (n:=i) (by omega)
   (repeat first|simp only[ww]|(apply xa;simp+decide only[go_sem,c1,hlt,hg,hst,hw,List.length_map];rfl;kernel_rfl))
   refine a0b (ins.length-(i+1)) (by omega) ⟨_,_,hgc (i+1) _ _ _ (by simp+decide only[go_sem]<;>rfl) (by simp+decide only[go_sem]),i+1,rfl,hlt,rfl,rfl⟩
  ·obtain rfl:i=ins.length:=by omega
   have c1:¬(ins.length:Int)<ins.length:=by omega
   (repeat first|simp only[ww]|(apply xa;simp+decide only[go_sem,c1,List.length_map];rfl;kernel_rfl))
   refine a0t kp100_2 (λq F H1=>∃j:Nat,q=sts.length-j∧j≤sts.length∧F=[(0,.yfn 0),(1,.iptr [sl ci (ins.map u8R),sl cs (sts.map u8R)]),(22,.int .i64 sts.length),(23,.int .i64 j)]∧H1=Hs (ins.length+j)) sts.length ?_ ?_
   ·exact⟨_,_,hgc _ _ _ _ (by simp+decide only[go_sem]<;>rfl) (by simp+decide only[go_sem]),0,rfl,Nat.zero_le _,rfl,rfl⟩
   ·rintro q F H1 ⟨j,rfl,hj,rfl,rfl⟩
    by_cases hlt2:j<sts.length
    ·obtain⟨v,hv⟩:∃v,sts[j]?=some v:=⟨_,z9e hlt2⟩
     obtain⟨σ,hst⟩:=hstep2 j v hv;have hst:=hst true;have hg:(sts.map u8R)[j]?=some [.int .u8 v]:=by rw[List.getElem?_map,hv];rfl
     have c2:(j:Int)<sts.length:=by omega
     have hw:=wI1 (n:=j) (by omega);have hw2:IntKind.i64.wrap ((ins.length:Int)+(j:Int))=((ins.length+j:Nat):Int):=by rw[w64 (by omega) (by omega)];omega
     (repeat first|simp only[ww]|(apply xa;simp+decide only[go_sem,c2];rfl;kernel_rfl))
     (repeat first|simp only[ww]|((with_reducible first|apply xs2|apply xI);(·simp+decide only[go_sem,hlt2,hg,hst,hw,hw2,List.length_map];rfl);with_reducible first|apply xT|apply xF|(·kernel_rfl)))
     exact a0b (sts.length-(j+1)) (by omega) ⟨_,_,hgc (ins.length+(j+1)) _ _ _ (by simp+decide only[go_sem]<;>rfl) (by simp+decide only[go_sem]),j+1,rfl,hlt2,rfl,rfl⟩
    ·obtain rfl:j=sts.length:=by omega
     have c2:¬(sts.length:Int)<sts.length:=by omega
     (repeat first|simp only[ww]|(apply xa;simp+decide only[go_sem,c2,List.length_map];rfl;kernel_rfl))
     refine a32 (vs:=[]) (r:=(_,_)) (by simp+decide only[go_sem]) ?_ rfl;exact hfin _
theorem yno:∀x∈Mf,x.g≠yId:=by decide
theorem e5o:L.env.fn yId=none:=by kernel_rfl
theorem e2j(i v:Nat)(hv:v≤2):sem L.env Mf yId [.yfn 0,.int .i64 i,.iptr [.int .u8 v]] [some (.yloop 2100000 [(2,.ptr 1 0 0),(5100000,.junk)] .ready),some (.row 1 [[.int .i64 0]])]=some (.bool true,[some (.yloop 2100000 [(2,.ptr 1 0 0),(5100000,.junk)] .ready),some (.row 1 [[.int .i64 0]])]):=by
 have hri:L.env.G.rnd 2100000=a5p 0 (rfs 21 21 0 (Tryz.f21.body.getD .skip)):=by kernel_rfl
 simp only[Tryz.f21,gS,rfs,a5p,List.append_nil,List.nil_append,List.cons_append,b5q,decide_true,cond_true,cond_false,reduceCtorEq,Nat.reduceEqDiff,decide_false]at hri;have c1:¬(2:Int)<(v:Int):=by omega
 refine b24 yno e5o rfl hri rfl rfl ?_;simp only[a9n,b22]
 (repeat first|simp only[ww]|(apply xa;simp+decide only[go_sem];rfl;kernel_rfl))
 refine d4y rfl ?_
 (repeat first|simp only[ww]|(apply xa;simp+decide only[go_sem,c1];rfl;kernel_rfl))
 exact d01 rfl rfl
theorem c1p(d:Bool)(i v:Nat)(hv:v≤2):a0d L.env d (sem L.env Mf) (.yfn 0) [.int .i64 i,.iptr [.int .u8 v]] [some (.yloop 2100000 [(2,.ptr 1 0 0),(5100000,.junk)] .ready),some (.row 1 [[.int .i64 0]])]=some (.bool true,[some (.yloop 2100000 [(2,.ptr 1 0 0),(5100000,.junk)] .ready),some (.row 1 [[.int .i64 0]])],[0,1]):=by refine c25 ((a18 (sem L.env Mf yId) [.yfn 0,.int .i64 i,.iptr [.int .u8 v]] [some (.yloop 2100000 [(2,.ptr 1 0 0),(5100000,.junk)] .ready),some (.row 1 [[.int .i64 0]])] (σ:=[0,1]) (by simp+decide only[go_sem]) rfl rfl (args':=[.yfn 0,.int .i64 i,.iptr [.int .u8 v]]) rfl (H0:=[some (.yloop 2100000 [(2,.ptr 1 0 0),(5100000,.junk)] .ready),some (.row 1 [[.int .i64 0]])]) rfl (e2j i v hv)).trans ?_) rfl;rfl
def Cb.ok(p:Cb):Prop:=p.ins.length+p.sts.length≤16384∧∀v∈p.all,v≤2
theorem b4x(p:Cb):refs (.iptr p.cells)=[]:=by unfold Cb.cells;simp+decide only[go_sem]
theorem d20(p:Cb)(h:p.ok):sem L.env Mf 21 [p.enc] []=some (.int .i64 0,[]):=by
 have hl:=h.1;have hb1:=c3k p (by omega) (λ_=>[some (.yloop 2100000 [(2,.ptr 1 0 0),(5100000,.junk)] .ready),some (.row 1 [[.int .i64 0]])]) 2 (λ_=>rfl) (by omega) (by
  intro i b c hc
  match b with
  |0=>simp[a01,a0k,a8k,refs]at hc;omega
  |1=>simp[a01,a0k,a0a,refs]at hc
  |b+2=>simp[a01,a0k]at hc) (by intro i;simp[a0k,a8k,a0a,refs]) (λi v hv=>⟨[0,1],λd=>c1p d i v (h.2 v (List.mem_of_getElem? hv))⟩)
 have hbf:=λH=>b5p (d:=false) H p;have hrc:=b4x p;have hrn:∀π,ren π (.iptr p.cells) = .iptr p.cells:=λπ=>a0f π _ hrc;have hw:IntKind.i64.wrap ((p.ins.length:Int)+(p.sts.length:Int))=((p.ins.length+p.sts.length:Nat):Int):=by rw[w64 (by omega) (by omega)];omega
 have c1:¬(16384:Int)<((p.ins.length+p.sts.length:Nat):Int):=by omega
 suffices hs:∃r:AV×a04,(r=(.int .i64 0,[]))∧sem L.env Mf 21 [p.enc] []=some r by obtain⟨r,rfl,h3⟩:=hs;exact h3
 have hcl:a1i (sem L.env Mf 100) [.yfn 2,.iptr p.cells] [some (.row 2 [p.cells]),some (.row 1 [[.int .i64 0]]),some (.yloop 2100000 [(2,.ptr 1 0 0),(5100000,.junk)] .ready)]=some (.tuple [],[some (.row 2 [p.cells]),some (.row 1 [[.int .i64 0]]),some (.yloop 2100000 [(2,.ptr 1 0 0),(5100000,.junk)] .ready)],[2,1]):=(a18 (sem L.env Mf 100) [.yfn 2,.iptr p.cells] [some (.row 2 [p.cells]),some (.row 1 [[.int .i64 0]]),some (.yloop 2100000 [(2,.ptr 1 0 0),(5100000,.junk)] .ready)] (σ:=[2,1]) (by simp+decide only[go_sem,hrc]) rfl rfl (args':=[.yfn 0,.iptr p.cells]) (by simp+decide only[go_sem,hrn]<;>rfl) (H0:=[some (.yloop 2100000 [(2,.ptr 1 0 0),(5100000,.junk)] .ready),some (.row 1 [[.int .i64 0]])]) (by rfl) hb1).trans rfl;obtain⟨ci,ins,cs,sts⟩:=p;unfold Cb.enc at hbf⊢;unfold Cb.cells at hbf hrc hrn hcl⊢;dsimp only at *
 (refine svE Tryz.f21 ?_;simp only[Tryz.f21,gS])
 (repeat first|simp only[ww]|(apply xa;simp+decide only[go_sem,List.length_map,hw,c1,hbf];rfl;kernel_rfl))
 refine d4g kp21_0 (by simp+decide only[go_sem]<;>rfl) rfl (by kernel_rfl) hcl ?_;show bk 0 _ .normal _ [_,_,none]
 (repeat first|simp only[ww]|(apply xa;simp+decide only[go_sem];rfl;kernel_rfl))
 refine a3q (vs:=[.int .i64 0]) (r:=(_,_)) (by simp+decide only[go_sem]) ?_ rfl;simp+decide only[go_sem,a0j]<;>rfl
theorem a1g(p:Cb):refs p.enc=[]:=by unfold Cb.enc Cb.cells;simp+decide only[go_sem]
theorem a7p{d:Bool}(H:a04)(p:Cb)(h:p.ok):a0d L.env d (sem L.env Mf) (.func (.func 21) [] []) [p.enc] H=some (.int .i64 0,H,[]):=a07 (by kernel_rfl) (by kernel_rfl) rfl (by simp[a0a,a1g]) (d20 p h) rfl
theorem a5d(l:List Nat):FlatR (l.map u8R):=FlatR.map λ_=>rfl
theorem a1v(l:List Nat):(l.map u8R).flatMap a0a=[]:=a05 (a5d l)
theorem a4i(π:Nat→Option Nat)(l:List Nat):(l.map u8R).map (λr=>r.map (ren π))=l.map u8R:=a02 π (a5d l)
theorem e7a{m:Nat}{d:AV→Option AV}(l:List Nat):b39 m d (l.map u8R)=some (l.map u8R):=a3p m d (a5d l)
theorem e4j(l:List Nat):((l.map u8R).all λr=>decide (r.length=1))=true:=by rw[List.all_eq_true];intro r hr;obtain⟨x,_,rfl⟩:=List.mem_map.1 hr;rfl
theorem e3i(l:List Nat):((l.map u8R).all λr=>r.all AV.storable)=true:=by rw[List.all_eq_true];intro r hr;obtain⟨x,_,rfl⟩:=List.mem_map.1 hr;rfl
theorem e1s:sem L.env Mf 154 [.nilslice,.int .i64 0] []=some (.nilslice,[]):=by
 have w0:IntKind.i64.wrap ((0:Int)-0)=0:=by decide
 (refine sv Tryz.f154 ?_;simp only[Tryz.f154,gS])
 (repeat first|simp only[ww]|(apply xa;simp+decide only[go_sem,w0];rfl;kernel_rfl))
 (apply fqb;simp+decide only[go_sem]<;>rfl)
theorem e5n(k n:Nat)(h0:0<n)(hn:n≤100000):a2f L.env k 49 3 .nilslice (.int .i64 n)=some (.slice k 0 n none,.new (.row 1 (List.replicate n [.int .u8 0]))):=by
 obtain⟨m,rfl⟩:∃m,n=m+1:=⟨n-1,by omega⟩
 have hu:L.env.und 49=some (.slice 42):=by kernel_rfl
 have hxd:(L.env.und 3).any a2a=true:=by kernel_rfl
 obtain⟨dx,hx,hd⟩:∃dx,L.env.und 3=some dx∧a2a dx=true:=by
  cases h:L.env.und 3 with
  |none=>rw[h]at hxd;cases hxd
  |some dx=>rw[h]at hxd;exact⟨dx,rfl,hxd⟩
 have hz:L.env.zero 42=some [.int .u8 0]:=by kernel_rfl
 have hs:L.env.sz 42=1:=by kernel_rfl
 have hr:a26 L.env 42 (m+1)=true:=a6u (by omega) (by decide+kernel);unfold a2f;simp only[hu,hx,hd,hz,hs,Bool.true_and];have h1:decide (0≤((m+1:Nat):Int))=true:=decide_eq_true (by omega);have h2:(((m+1:Nat):Int)).toNat=m+1:=by omega
 have h3:Nat.blt 0 1=true:=rfl;simp only[h1,h2,h3,hr,cond_true]
theorem e1r(n:Nat)(h0:0<n)(hn:n≤100000):sem L.env Mf 154 [.nilslice,.int .i64 n] []=some (.slice 0 0 0 none,[some (.row 1 (List.replicate n [.int .u8 0]))]):=by
 have c1:¬(n:Int)<0:=by omega
 have c2:(0:Int)<n:=by omega
 have w0:IntKind.i64.wrap ((0:Int)-0)=0:=by decide
 have hw:IntKind.i64.wrap ((n:Int)-0)=n:=by rw[w64 (by omega) (by omega)];omega
 have hz:=λk=>e5n k n h0 hn;have ha:apT L.env 49 3=none:=by kernel_rfl
 have hs:∀hp,a3y L.env hp 49 .nilslice none (some (.int .i64 0)) none=some .nilslice:=λhp=>by kernel_rfl
 (refine sv Tryz.f154 ?_;simp only[Tryz.f154,gS])
 (repeat first|simp only[ww]|(apply xa;simp+decide only[go_sem,c1,c2,w0,hw,hz,ha,hs];rfl;kernel_rfl))
 (apply fqb;simp+decide only[go_sem]<;>rfl)
def slU(l:List Nat):AV:=slF none (l.map u8R)
theorem c5t{l:List Nat}(h:l≠[]):slU l = .islice (l.map u8R) none:=by
 cases l with
 |nil=>exact absurd rfl h
 |cons a r=>rfl
theorem a14(l:List Nat):refs (slU l)=[]:=by cases l<;>rfl
theorem c4n(H:a04):a0d L.env false (sem L.env Mf) (.func (.func 154) [] []) [.nilslice,.int .i64 0] H=some (.nilslice,H,[]):=a07 (by kernel_rfl) (by kernel_rfl) rfl rfl e1s rfl
theorem c7j(H:a04)(n:Nat)(h0:0<n)(hn:n≤100000):a0d L.env false (sem L.env Mf) (.func (.func 154) [] []) [.nilslice,.int .i64 n] H=some (.slice H.length 0 0 none,H++[some (.row 1 (List.replicate n [.int .u8 0]))],[]):=by
 have hc:=a18 (sem L.env Mf 154) [.nilslice,.int .i64 n] H (σ:=[]) rfl rfl rfl (args':=[.nilslice,.int .i64 n]) rfl (H0:=[]) rfl (e1r n h0 hn);have hf:FlatR (List.replicate n [AV.int .u8 0]):=λr hr=>by rw[(List.mem_replicate.1 hr).2];rfl
 refine b9u (by kernel_rfl) (by kernel_rfl) rfl (hc.trans ?_);have hr:=λπ=>a02 π hf;simp only[a4w,ren,a0s,List.length_nil,List.drop_zero,List.map_cons,List.map_nil,Option.map_some,a0e,hr];simp[Nat.blt];rfl
theorem c87(ca cb:Option (Option Nat))(a b:List Nat)(hl:a.length+b.length≤100000):sem L.env Mf 118 [.slice 0 0 2 (some 2)] [some (.row 1 [[sl ca (a.map u8R)],[sl cb (b.map u8R)]])]=some (slU (a++b),[some (.row 1 [[sl ca (a.map u8R)],[sl cb (b.map u8R)]])]):=by
 suffices hs:∃r:AV×a04,(r=(slU (a++b),[some (.row 1 [[sl ca (a.map u8R)],[sl cb (b.map u8R)]])]))∧sem L.env Mf 118 [.slice 0 0 2 (some 2)] [some (.row 1 [[sl ca (a.map u8R)],[sl cb (b.map u8R)]])]=some r by obtain⟨r,rfl,h3⟩:=hs;exact h3
 have w1:IntKind.i64.wrap ((0:Int)+(a.length:Int))=(a.length:Int):=by rw[w64 (by omega) (by omega)];omega
 have w2:IntKind.i64.wrap ((a.length:Int)+(b.length:Int))=((a.length+b.length:Nat):Int):=by rw[w64 (by omega) (by omega)];omega
 have c1:¬(a.length:Int)<0:=by omega
 have c2:¬((a.length+b.length:Nat):Int)<0:=by omega
 (refine svE Tryz.f118 ?_;simp only[Tryz.f118,gS])
 (repeat first|simp only[ww]|(apply xa;simp+decide only[go_sem];rfl;kernel_rfl))
 refine a0t kp118_0 (λq F H1=>∃(i x:Int),((i=0∧x=0∧q=2)∨(i=1∧x=a.length∧q=1)∨(i=2∧x=(a.length+b.length:Nat)∧q=0))∧F=[(0,.slice 0 0 2 (some 2)),(3,.int .i64 x),(9,.slice 0 0 2 (some 2)),(10,.int .i64 2),(11,.int .i64 i)]∧H1=[some (.row 1 [[sl ca (a.map u8R)],[sl cb (b.map u8R)]])]) 2 ?_ ?_
 ·refine⟨_,_,?_,0,0,.inl ⟨rfl,rfl,rfl⟩,rfl,rfl⟩
  (simp+decide only[go_sem,a03,a00]<;>rfl)<;>rfl
 ·rintro q F H1 ⟨i,x,h,rfl,rfl⟩
  rcases h with ⟨rfl,rfl,rfl⟩|⟨rfl,rfl,rfl⟩|⟨rfl,rfl,rfl⟩
  ·(repeat first|simp only[ww]|(apply xa;simp+decide only[go_sem,w1,c1,List.length_map];rfl;kernel_rfl))
   refine a0b 1 (by omega) ⟨_,_,?_,1,a.length,.inr (.inl ⟨rfl,rfl,rfl⟩),rfl,rfl⟩
   (simp+decide only[go_sem,a03,a00]<;>rfl)<;>rfl
  ·(repeat first|simp only[ww]|(apply xa;simp+decide only[go_sem,w2,c2,List.length_map];rfl;kernel_rfl))
   refine a0b 0 (by omega) ⟨_,_,?_,2,(a.length+b.length:Nat),.inr (.inr ⟨rfl,rfl,rfl⟩),rfl,rfl⟩
   (simp+decide only[go_sem,a03,a00]<;>rfl)<;>rfl
  ·rcases Nat.eq_zero_or_pos (a.length+b.length)with hz|hz
   ·have ha:a=[]:=List.eq_nil_of_length_eq_zero (by omega);have hb:b=[]:=List.eq_nil_of_length_eq_zero (by omega);subst ha hb;have hg:=λH=>c4n H;simp only[List.length_nil,Nat.add_zero,Int.natCast_zero]
    (repeat first|simp only[ww]|(apply xa;simp+decide only[go_sem,hg];rfl;kernel_rfl))
    refine a0t kp118_2 (λq F H1=>∃(i:Int),((i=0∧q=2)∨(i=1∧q=1)∨(i=2∧q=0))∧F=[(6,.nilslice),(25,.slice 0 0 2 (some 2)),(26,.int .i64 2),(27,.int .i64 i)]∧H1=[some (.row 1 [[sl ca (([]:List Nat).map u8R)],[sl cb (([]:List Nat).map u8R)]])]) 2 ?_ ?_
    ·refine⟨_,_,?_,0,.inl ⟨rfl,rfl⟩,rfl,rfl⟩
     (simp+decide only[go_sem,a03,a00]<;>rfl)<;>rfl
    ·rintro q F H1 ⟨i,h,rfl,rfl⟩
     rcases h with ⟨rfl,rfl⟩|⟨rfl,rfl⟩|⟨rfl,rfl⟩
     ·(repeat first|simp only[ww]|(apply xa;simp+decide only[go_sem,List.map_nil];rfl;kernel_rfl))
      refine a0b 1 (by omega) ⟨_,_,?_,1,.inr (.inl ⟨rfl,rfl⟩),rfl,rfl⟩
      (simp+decide only[go_sem,a03,a00,List.map_nil]<;>rfl)<;>rfl
     ·(repeat first|simp only[ww]|(apply xa;simp+decide only[go_sem,List.map_nil];rfl;kernel_rfl))
      refine a0b 0 (by omega) ⟨_,_,?_,2,.inr (.inr ⟨rfl,rfl⟩),rfl,rfl⟩
      (simp+decide only[go_sem,a03,a00,List.map_nil]<;>rfl)<;>rfl
     ·(repeat first|simp only[ww]|(apply xa;simp+decide only[go_sem];rfl;kernel_rfl))
      refine a32 (vs:=[.nilslice]) (r:=(_,_)) (by simp+decide only[go_sem]) ?_ rfl;simp+decide only[go_sem,a0j]<;>rfl
   ·have hg:=λH=>c7j H (a.length+b.length) hz hl;have hne:a++b≠[]:=by intro e;rw[List.append_eq_nil_iff]at e;rw[e.1,e.2]at hz;simp at hz
    generalize hR:List.replicate (a.length+b.length) [AV.int .u8 0]=R at hg;have hRl:R.length=a.length+b.length:=by rw[←hR];simp
    have hRf:FlatR R:=λr hr=>by rw[←hR]at hr;rw[(List.mem_replicate.1 hr).2];rfl
    have hr1:a.length≤1000000000:=by omega
    have hr2:a.length+b.length≤1000000000:=by omega
    have hn0:¬0=a.length+b.length:=by omega
    (repeat first|simp only[ww]|(apply xa;simp+decide only[go_sem,hg];rfl;kernel_rfl))
    refine a0t kp118_2 (λq F H1=>∃(i:Int) (n:Nat) (Q:List (List AV)),((i=0∧q=2∧n=0∧Q=R)∨(i=1∧q=1∧n=a.length∧Q=a.map u8R)∨(i=2∧q=0∧n=a.length+b.length∧Q=a.map u8R++b.map u8R))∧F=[(6,.slice 1 0 n none),(25,.slice 0 0 2 (some 2)),(26,.int .i64 2),(27,.int .i64 i)]∧H1=[some (.row 1 [[sl ca (a.map u8R)],[sl cb (b.map u8R)]]),some (.row 1 Q)]) 2 ?_ ?_
    ·refine⟨_,_,?_,0,0,R,.inl ⟨rfl,rfl,rfl,rfl⟩,rfl,rfl⟩
     (simp+decide only[go_sem,a03,a00,a05 hRf,a02 _ hRf]<;>rfl)<;>rfl
    ·rintro q F H1 ⟨i,n,Q,h,rfl,rfl⟩
     rcases h with ⟨rfl,rfl,rfl,rfl⟩|⟨rfl,rfl,rfl,rfl⟩|⟨rfl,rfl,rfl,rfl⟩
     ·(repeat first|simp only[ww]|(apply xa;simp+decide only[go_sem,e4j,e3i,hRl,hr1,hn0,Nat.zero_add,List.length_map,Nat.zero_le];rfl;kernel_rfl))
      refine a0b 1 (by omega) ⟨_,_,?_,1,a.length,a.map u8R,.inr (.inl ⟨rfl,rfl,rfl,rfl⟩),rfl,rfl⟩
      (simp+decide only[go_sem,a03,a00,a1v,a4i]<;>rfl)<;>rfl
     ·(repeat first|simp only[ww]|(apply xa;simp+decide only[go_sem,e4j,e3i,hr2,List.length_map];rfl;kernel_rfl))
      refine a0b 0 (by omega) ⟨_,_,?_,2,a.length+b.length,a.map u8R++b.map u8R,.inr (.inr ⟨rfl,rfl,rfl,rfl⟩),rfl,rfl⟩
      (simp+decide only[go_sem,a03,a00,a1v,a4i,List.flatMap_append,List.map_append]<;>rfl)<;>rfl
     ·(repeat first|simp only[ww]|(apply xa;simp+decide only[go_sem];rfl;kernel_rfl))
      refine a32 (vs:=[.slice 1 0 (a.length+b.length) none]) (r:=(_,_)) (by simp+decide only[go_sem]) ?_ rfl;rw[c5t hne];have ht:List.take (a.length+b.length) (a.map u8R++b.map u8R)=a.map u8R++b.map u8R:=List.take_of_length_le (by simp);have hfz:∀m d,b39 m d (a.map u8R++b.map u8R)=some (a.map u8R++b.map u8R):=λm d=>a3p m d ((a5d a).append (a5d b));have hln:a.length+b.length≤a.length+b.length:=Nat.le_refl _;simp+decide only[go_sem,a0j,ht,hfz,List.length_map,List.length_append,List.map_append]<;>rfl
theorem d6n(p:Cb)(hl:p.ins.length+p.sts.length≤100000):sem L.env Mf 86 [p.enc] []=some (slU p.all,[]):=by
 have hc:∀X,a0d L.env false (sem L.env Mf) (.func (.func 118) [] []) [.slice 1 0 2 (some 2)] [X,some (.row 1 [[sl p.ci (p.ins.map u8R)],[sl p.cs (p.sts.map u8R)]])]=some (slU p.all,[X,some (.row 1 [[sl p.ci (p.ins.map u8R)],[sl p.cs (p.sts.map u8R)]])],[1]):=λX=>a1b (b:=1) (by kernel_rfl) (by kernel_rfl) rfl rfl (by simp+decide only[go_sem]<;>rfl) (FlatO.row (FlatR.cons (by simp+decide only[go_sem]) (FlatR.cons (by simp+decide only[go_sem]) FlatR.nil))) rfl (args':=[.slice 0 0 2 (some 2)]) rfl (c87 p.ci p.cs p.ins p.sts hl) (a14 _);have hf:∀b d,a23 0 b d (slU p.all)=some (slU p.all):=λb d=>a16 _ _ d _ (a14 _);unfold Cb.enc Cb.cells
 (refine sv Tryz.f86 ?_;simp only[Tryz.f86,gS])
 (repeat first|simp only[ww]|(apply xa;simp+decide only[go_sem,hc];rfl;kernel_rfl))
 (apply fqb;simp+decide only[go_sem,hf]<;>rfl)
theorem b9e{d:Bool}(H:a04)(p:Cb)(hl:p.ins.length+p.sts.length≤100000):a0d L.env d (sem L.env Mf) (.func (.func 86) [] []) [p.enc] H=some (slU p.all,H,[]):=a07 (by kernel_rfl) (by kernel_rfl) rfl (by simp[a0a,a1g]) (d6n p hl) (a14 _)
theorem d7b(p q:Cb)(hp:p.ok)(hq:q.ok)(h1:p.ins.length=q.ins.length)(h2:p.sts.length=q.sts.length):sem L.env Mf 85 [p.enc,q.enc] []=some (.int .i64 0,[]):=by
 have hcp:=a7p (d:=false) (p:=p) (h:=hp);have hcq:=a7p (d:=false) (p:=q) (h:=hq);unfold Cb.enc Cb.cells at hcp hcq⊢;have e1:((p.ins.length:Int)=q.ins.length)=True:=eq_true (by omega);have e2:((p.sts.length:Int)=q.sts.length)=True:=eq_true (by omega)
 suffices hs:∃r:AV×a04,(r=(.int .i64 0,[]))∧sem L.env Mf 85 [.agg [sl p.ci (p.ins.map u8R),sl p.cs (p.sts.map u8R)],.agg [sl q.ci (q.ins.map u8R),sl q.cs (q.sts.map u8R)]] []=some r by obtain⟨r,rfl,h3⟩:=hs;exact h3
 (refine svE Tryz.f85 ?_;simp only[Tryz.f85,gS])
 (repeat first|simp only[ww]|(apply xa;simp+decide only[go_sem];rfl;kernel_rfl))
 refine a0t kp85_0 (λn F H1=>∃(i:Int),((i=0∧n=2)∨(i=1∧n=1)∨(i=2∧n=0))∧F=[(2,.ptr 0 0 0),(3,.ptr 1 0 0),(10,.slice 2 0 2 (some 2)),(11,.int .i64 2),(12,.int .i64 i)]∧H1=[some (.row 2 [[sl p.ci (p.ins.map u8R),sl p.cs (p.sts.map u8R)]]),some (.row 2 [[sl q.ci (q.ins.map u8R),sl q.cs (q.sts.map u8R)]]),some (.row 2 [[sl p.ci (p.ins.map u8R),sl p.cs (p.sts.map u8R)],[sl q.ci (q.ins.map u8R),sl q.cs (q.sts.map u8R)]])]) 2 ?_ ?_
 ·refine⟨_,_,?_,0,.inl ⟨rfl,rfl⟩,rfl,rfl⟩
  (simp+decide only[go_sem,a03,a00]<;>rfl)<;>rfl
 ·rintro n F H1 ⟨i,h,rfl,rfl⟩
  rcases h with ⟨rfl,rfl⟩|⟨rfl,rfl⟩|⟨rfl,rfl⟩
  ·(repeat first|simp only[ww]|(apply xa;simp+decide only[go_sem,hcp];rfl;kernel_rfl))
   refine a0b 1 (by omega) ⟨_,_,?_,1,.inr (.inl ⟨rfl,rfl⟩),rfl,rfl⟩
   (simp+decide only[go_sem,a03,a00]<;>rfl)<;>rfl
  ·(repeat first|simp only[ww]|(apply xa;simp+decide only[go_sem,hcq];rfl;kernel_rfl))
   refine a0b 0 (by omega) ⟨_,_,?_,2,.inr (.inr ⟨rfl,rfl⟩),rfl,rfl⟩
   (simp+decide only[go_sem,a03,a00]<;>rfl)<;>rfl
  ·(repeat first|simp only[ww]|(apply xa;simp+decide only[go_sem,List.length_map,e1,e2];rfl;kernel_rfl))
   refine a3q (vs:=[.int .i64 0]) (r:=(_,_)) (by simp+decide only[go_sem]) ?_ rfl;simp+decide only[go_sem,a0j]<;>rfl
theorem b9r{d:Bool}(H:a04)(p q:Cb)(hp:p.ok)(hq:q.ok)(h1:p.ins.length=q.ins.length)(h2:p.sts.length=q.sts.length):a0d L.env d (sem L.env Mf) (.func (.func 85) [] []) [p.enc,q.enc] H=some (.int .i64 0,H,[]):=a07 (by kernel_rfl) (by kernel_rfl) rfl (by simp[a0a,a1g]) (d7b p q hp hq h1 h2) rfl
theorem d71(x y:Nat)(hx:x≤2)(hy:y≤2):sem L.env Mf 116 [.int .u8 x,.int .u8 y] []=some (.bool (decide (x+y=1)),[]):=by
 have hw:IntKind.u8.wrap ((x:Int)+(y:Int))=((x+y:Nat):Int):=by
  have:IntKind.u8.wrap ((x:Int)+(y:Int))=((x:Int)+y)%256:=by simp[IntKind.wrap,IntKind.signed,IntKind.bits]
  rw[this];omega
 have hd:decide (((x+y:Nat):Int)=1)=decide (x+y=1):=by rw[Bool.eq_iff_iff,decide_eq_true_eq,decide_eq_true_eq];omega
 (refine sv Tryz.f116 ?_;simp only[Tryz.f116,gS])
 (repeat first|simp only[ww]|(apply xa;simp+decide only[go_sem,hw];rfl;kernel_rfl))
 (apply fqb;simp+decide only[go_sem,hd]<;>rfl)
theorem d77(x y:Nat):sem L.env Mf 112 [.int .u8 x,.int .u8 y] []=some (.bool (!decide (x=2) && !decide (x=y)),[]):=by
 have e1:decide ((x:Int)=2)=decide (x=2):=by rw[Bool.eq_iff_iff,decide_eq_true_eq,decide_eq_true_eq];omega
 have e2:decide ((x:Int)=y)=decide (x=y):=by rw[Bool.eq_iff_iff,decide_eq_true_eq,decide_eq_true_eq];omega
 by_cases h1:x=2
 ·have c1:((x:Int)=2)=True:=eq_true (by omega);rw[decide_eq_true h1]
  (refine sv Tryz.f112 ?_;simp only[Tryz.f112,gS])
  (repeat first|simp only[ww]|(apply xa;simp+decide only[go_sem,c1];rfl;kernel_rfl))
  (apply fqb;simp+decide only[go_sem]<;>rfl)
 ·have c1:((x:Int)=2)=False:=eq_false (by omega);rw[decide_eq_false h1]
  (refine sv Tryz.f112 ?_;simp only[Tryz.f112,gS])
  (repeat first|simp only[ww]|(apply xa;simp+decide only[go_sem,c1];rfl;kernel_rfl))
  (apply fqb;simp+decide only[go_sem,e2]<;>rfl)
def b45(f:Nat→Nat→Bool)(a b:List Nat)(i:Nat):Nat:=((a.zip b).take i).countP λz=>f z.1 z.2
theorem c8e{f:Nat→Nat→Bool}{a b:List Nat}{i x y:Nat}(hx:a[i]?=some x)(hy:b[i]?=some y):b45 f a b (i+1)=b45 f a b i+if f x y then 1 else 0:=by
 unfold b45;have hz:(a.zip b)[i]?=some (x,y):=by rw[List.getElem?_zip_eq_some];exact⟨hx,hy⟩
 rw[List.take_add_one,hz,List.countP_append];simp only[Option.toList_some,List.countP_cons,List.countP_nil,Nat.zero_add]
theorem d7a(f:Nat→Nat→Bool)(a b:List Nat)(i:Nat):b45 f a b i≤i:=by unfold b45;exact Nat.le_trans List.countP_le_length (by simp;omega)
theorem a9l(π:Nat→Option Nat)(l:List Nat):ren π (slU l)=slU l:=a0f π _ (a14 l)
theorem a24(l:List Nat):(slU l).cells=[slU l]:=by cases l<;>rfl
theorem a40(l:List Nat):(slU l).storable=true:=by cases l<;>rfl
theorem a2u(l:List Nat):(slU l).isJunk=false:=by cases l<;>rfl
def IsF(FV:AV)(f:Nat→Nat→Bool):Prop:=refs FV=[]∧AV.cells FV=[FV]∧AV.storable FV=true∧AV.isJunk FV=false∧∀(x y:Nat),x≤2→y≤2→∀d H,a0d L.env d (sem L.env Mf) FV [.int .u8 x,.int .u8 y] H=some (.bool (f x y),H,[])
def HsC(FV:AV)(f:Nat→Nat→Bool)(a b:List Nat)(i:Nat):a04:=[some (.yloop 11100000 [(5,.ptr 1 0 0),(6,.ptr 2 0 0),(7,.ptr 3 0 0),(14100000,.junk)] .ready),some (.row 1 [[FV]]),some (.row 1 [[.int .i64 (b45 f a b i)]]),some (.row 1 [[slU b]])]
theorem e2f(FV:AV)(f:Nat→Nat→Bool)(hF:IsF FV f)(a b:List Nat)(i x y:Nat)(hx:a[i]?=some x)(hy:b[i]?=some y)(hx2:x≤2)(hy2:y≤2)(hi:i<100000):sem L.env Mf yId [.yfn 0,.int .i64 i,.iptr [.int .u8 x]] (HsC FV f a b i)=some (.bool true,HsC FV f a b (i+1)):=by
 have hri:L.env.G.rnd 11100000=a5p 0 (rfs 32 111 0 (Tryz.f111.body.getD .skip)):=by kernel_rfl
 simp only[Tryz.f111,gS,rfs,a5p,List.append_nil,List.nil_append,List.cons_append,b5q,decide_true,cond_true,cond_false,reduceCtorEq,Nat.reduceEqDiff,decide_false]at hri;obtain⟨h1,h2,h3,h4,h5⟩:=hF;have hc:=λH=>h5 x y hx2 hy2 true H;have hst:=c8e (f:=f) hx hy;have hle:=d7a f a b i;have hw:=wI1 (n:=b45 f a b i) (by omega);have hg:(b.map u8R)[i]?=some [.int .u8 y]:=by rw[List.getElem?_map,hy];rfl
 have hlt:=(List.getElem?_eq_some_iff.1 hy).1;have hne:b≠[]:=by intro e;rw[e]at hlt;simp at hlt
 have hsl:=c5t hne;unfold HsC;rw[hsl];refine b24 yno e5o rfl hri rfl rfl ?_;simp only[a9n,b22]
 (repeat first|simp only[ww]|(apply xa;simp+decide only[go_sem];rfl;kernel_rfl))
 refine d4y rfl ?_;by_cases hf:f x y=true
 ·rw[hf]at hc hst;rw[if_pos rfl]at hst
  (repeat first|simp only[ww]|((with_reducible first|apply xs2|apply xI);(·simp+decide only[go_sem,hg,hlt,hc,List.length_map,hw];rfl);with_reducible first|apply xT|apply xF|(·kernel_rfl)))
  rw[hst];exact d01 rfl rfl
 ·have hf:f x y=false:=by simpa using hf
  rw[hf]at hc hst;rw[if_neg (by decide),Nat.add_zero]at hst
  (repeat first|simp only[ww]|((with_reducible first|apply xs2|apply xI);(·simp+decide only[go_sem,hg,hlt,hc,List.length_map];rfl);with_reducible first|apply xT|apply xF|(·kernel_rfl)))
  rw[hst];exact d01 rfl rfl
theorem c1l(d:Bool)(FV:AV)(f:Nat→Nat→Bool)(hF:IsF FV f)(a b:List Nat)(i x y:Nat)(hx:a[i]?=some x)(hy:b[i]?=some y)(hx2:x≤2)(hy2:y≤2)(hi:i<100000):a0d L.env d (sem L.env Mf) (.yfn 0) [.int .i64 i,.iptr [.int .u8 x]] (HsC FV f a b i)=some (.bool true,HsC FV f a b (i+1),[0,1,2,3]):=by have hr:=e2f FV f hF a b i x y hx hy hx2 hy2 hi;have h1:=hF.1;have h2:∀π,ren π FV=FV:=λπ=>a0f π _ h1;have h3:=a14 b;have h4:=λπ=>a9l π b;unfold HsC at hr⊢;refine c25 ((a18 (sem L.env Mf yId) [.yfn 0,.int .i64 i,.iptr [.int .u8 x]] _ (σ:=[0,1,2,3]) (by simp+decide only[go_sem,h1,h3]) rfl rfl (args':=[.yfn 0,.int .i64 i,.iptr [.int .u8 x]]) rfl (H0:=_) (by simp only[a19,List.map_cons,List.map_nil,a01,List.getElem?_cons_succ,List.getElem?_cons_zero,Option.join_some,Option.map_some,a0e,h2,h4];rfl) hr).trans ?_) rfl;simp+decide only[go_sem,h2,h4]<;>rfl
theorem d8b(FV:AV)(f:Nat→Nat→Bool)(a b:List Nat)(i:Nat):(HsC FV f a b i).length=4:=by rfl
structure Shp(p q:Cb):Prop where
 okp:p.ok
 okq:q.ok
 ins:p.ins.length=q.ins.length
 sts:p.sts.length=q.sts.length
theorem Shp.len{p q:Cb}(h:Shp p q):p.all.length=q.all.length:=by unfold Cb.all;rw[List.length_append,List.length_append,h.ins,h.sts]
theorem c6x(p q:Cb)(h:Shp p q)(FV:AV)(f:Nat→Nat→Bool)(hF:IsF FV f):sem L.env Mf 111 [p.enc,q.enc,FV] []=some (.int .i64 (b45 f p.all q.all (p.ins.length+p.sts.length)),[]):=by
 have hp1:=h.okp.1;have hq1:=h.okq.1;have h1:=hF.1;obtain⟨_,h2,h3,h4,_⟩:=id hF;have hn:∀π,ren π FV=FV:=λπ=>a0f π _ h1;have g1:=a14 q.all;have g2:=λπ=>a9l π q.all;have hl:=h.len;have hb1:=c3k p (by omega) (HsC FV f p.all q.all) 4 (λi=>d8b FV f p.all q.all i) (by omega) (by
  intro i b c hc;unfold HsC at hc
  match b with
  |0=>simp[a01,a0k,a8k,refs]at hc;omega
  |1=>simp[a01,a0k,a0a,refs,h1]at hc
  |2=>simp[a01,a0k,a0a,refs]at hc
  |3=>simp[a01,a0k,a0a,refs,g1]at hc
  |b+4=>simp[a01,a0k]at hc) (by intro i;unfold HsC;simp[a0k,a8k,a0a,refs,h1,g1]) (λi v hv=>by
   have hil:=(List.getElem?_eq_some_iff.1 hv).1;obtain⟨y,hy⟩:∃y,q.all[i]?=some y:=⟨_,z9e (by omega)⟩
   have hle:p.all.length=p.ins.length+p.sts.length:=by unfold Cb.all;simp
   exact⟨[0,1,2,3],λd=>c1l d FV f hF p.all q.all i v y hv hy (h.okp.2 v (List.mem_of_getElem? hv)) (h.okq.2 y (List.mem_of_getElem? hy)) (by omega)⟩)
 have hck:=b9r (d:=false) (p:=p) (q:=q) (hp:=h.okp) (hq:=h.okq) (h1:=h.ins) (h2:=h.sts);have hfl:=λH=>b9e (d:=false) H q (by omega);have hbf:=λH=>b5p (d:=false) H p;have hrc:=b4x p;have hrn:∀π,ren π (.iptr p.cells) = .iptr p.cells:=λπ=>a0f π _ hrc;have hT:HsC FV f p.all q.all 0=[some (.yloop 11100000 [(5,.ptr 1 0 0),(6,.ptr 2 0 0),(7,.ptr 3 0 0),(14100000,.junk)] .ready),some (.row 1 [[FV]]),some (.row 1 [[.int .i64 0]]),some (.row 1 [[slU q.all]])]:=by unfold HsC b45;simp
 have hcl:∀X Y,a1i (sem L.env Mf 100) [.yfn 5,.iptr p.cells] [X,Y,some (.row 1 [[FV]]),some (.row 1 [[.int .i64 0]]),some (.row 1 [[slU q.all]]),some (.yloop 11100000 [(5,.ptr 2 0 0),(6,.ptr 3 0 0),(7,.ptr 4 0 0),(14100000,.junk)] .ready)] =
  some (.tuple [],[X,Y,some (.row 1 [[FV]]),some (.row 1 [[.int .i64 (b45 f p.all q.all (p.ins.length+p.sts.length))]]),some (.row 1 [[slU q.all]]),some (.yloop 11100000 [(5,.ptr 2 0 0),(6,.ptr 3 0 0),(7,.ptr 4 0 0),(14100000,.junk)] .ready)],[5,2,3,4]):=by
  intro X Y;rw[hT]at hb1;unfold HsC at hb1;refine(a18 (sem L.env Mf 100) [.yfn 5,.iptr p.cells] _ (σ:=[5,2,3,4]) (by simp+decide only[go_sem,hrc,h1,g1]) rfl rfl (args':=[.yfn 0,.iptr p.cells]) (by simp+decide only[go_sem,hrn]<;>rfl) (H0:=_) (by simp only[a19,List.map_cons,List.map_nil,a01,List.getElem?_cons_succ,List.getElem?_cons_zero,Option.join_some,Option.map_some,a0e,hn,g2];rfl) hb1).trans ?_;simp+decide only[go_sem,hn,g2]<;>rfl
 unfold Cb.enc at hck hfl hbf⊢;unfold Cb.cells at hck hfl hbf hrc hrn hcl⊢
 (refine sv Tryz.f111 ?_;simp only[Tryz.f111,gS])
 (repeat first|simp only[ww]|(apply xa;simp+decide only[go_sem,hck,hfl,hbf,h2,h3,h4,a24,a40,a2u];rfl;kernel_rfl))
 refine d4g kp111_0 (by simp+decide only[go_sem]<;>rfl) rfl (by kernel_rfl) (hcl _ _) ?_;show bk 0 _ .normal _ [_,_,_,_,_,none]
 (repeat first|simp only[ww]|(apply xa;simp+decide only[go_sem];rfl;kernel_rfl))
 (apply fqb;simp+decide only[go_sem]<;>rfl)
theorem b2s{d:Bool}(H:a04)(p q:Cb)(h:Shp p q)(FV:AV)(f:Nat→Nat→Bool)(hF:IsF FV f):a0d L.env d (sem L.env Mf) (.func (.func 111) [] []) [p.enc,q.enc,FV] H=some (.int .i64 (b45 f p.all q.all (p.ins.length+p.sts.length)),H,[]):=a07 (by kernel_rfl) (by kernel_rfl) rfl (by simp[a0a,a1g,hF.1]) (c6x p q h FV f hF) rfl
def d1a(x y:Nat):Bool:=decide (x+y=1)
def e2e(x y:Nat):Bool:=!decide (x=2) && !decide (x=y)
theorem e7p:IsF (.func (.func 116) [] []) d1a:=⟨rfl,rfl,rfl,rfl,λx y hx hy d H=>a07 (by kernel_rfl) (by kernel_rfl) rfl rfl (d71 x y hx hy) rfl⟩
theorem e7u:IsF (.func (.func 112) [] []) e2e:=⟨rfl,rfl,rfl,rfl,λx y hx hy d H=>a07 (by kernel_rfl) (by kernel_rfl) rfl rfl (d77 x y) rfl⟩
def Cb.n(p:Cb):Nat:=p.ins.length+p.sts.length
def a43(p q:Cb):Bool:=decide (b45 d1a p.all q.all p.n=0)
def c86(p q:Cb):Bool:=decide (b45 e2e p.all q.all p.n=0)
theorem d70(p q:Cb)(h:Shp p q):sem L.env Mf 81 [p.enc,q.enc] []=some (.int .i64 (b45 d1a p.all q.all p.n),[]):=by
 have hc:=b2s (d:=false) (p:=p) (q:=q) (h:=h) (hF:=e7p);unfold Cb.enc Cb.cells at hc⊢;unfold Cb.n
 (refine sv Tryz.f81 ?_;simp only[Tryz.f81,gS])
 (repeat first|simp only[ww]|(apply xa;simp+decide only[go_sem,hc];rfl;kernel_rfl))
 (apply fqb;simp+decide only[go_sem]<;>rfl)
theorem c81{d:Bool}(H:a04)(p q:Cb)(h:Shp p q):a0d L.env d (sem L.env Mf) (.func (.func 81) [] []) [p.enc,q.enc] H=some (.int .i64 (b45 d1a p.all q.all p.n),H,[]):=a07 (by kernel_rfl) (by kernel_rfl) rfl (by simp[a0a,a1g]) (d70 p q h) rfl
theorem c89(p q:Cb)(h:Shp p q):sem L.env Mf 38 [p.enc,q.enc] []=some (.bool (a43 p q),[]):=by
 have hc:=c81 (d:=false) (p:=p) (q:=q) (h:=h);have hd:decide (((b45 d1a p.all q.all p.n:Nat):Int)=0)=a43 p q:=by unfold a43;rw[Bool.eq_iff_iff,decide_eq_true_eq,decide_eq_true_eq];omega
 unfold Cb.enc Cb.cells at hc⊢
 (refine sv Tryz.f38 ?_;simp only[Tryz.f38,gS])
 (repeat first|simp only[ww]|(apply xa;simp+decide only[go_sem,hc];rfl;kernel_rfl))
 (apply fqb;simp+decide only[go_sem,hd]<;>rfl)
theorem a84{d:Bool}(H:a04)(p q:Cb)(h:Shp p q):a0d L.env d (sem L.env Mf) (.func (.func 38) [] []) [p.enc,q.enc] H=some (.bool (a43 p q),H,[]):=a07 (by kernel_rfl) (by kernel_rfl) rfl (by simp[a0a,a1g]) (c89 p q h) rfl
theorem e2d(p q:Cb)(h:Shp p q):sem L.env Mf 72 [p.enc,q.enc] []=some (.bool (c86 p q),[]):=by
 have hc:=b2s (d:=false) (p:=p) (q:=q) (h:=h) (hF:=e7u);have hd:decide (((b45 e2e p.all q.all (p.ins.length+p.sts.length):Nat):Int)=0)=c86 p q:=by unfold c86 Cb.n;rw[Bool.eq_iff_iff,decide_eq_true_eq,decide_eq_true_eq];omega
 unfold Cb.enc Cb.cells at hc⊢
 (refine sv Tryz.f72 ?_;simp only[Tryz.f72,gS])
 (repeat first|simp only[ww]|(apply xa;simp+decide only[go_sem,hc];rfl;kernel_rfl))
 (apply fqb;simp+decide only[go_sem,hd]<;>rfl)
theorem d1i{d:Bool}(H:a04)(p q:Cb)(h:Shp p q):a0d L.env d (sem L.env Mf) (.func (.func 72) [] []) [p.enc,q.enc] H=some (.bool (c86 p q),H,[]):=a07 (by kernel_rfl) (by kernel_rfl) rfl (by simp[a0a,a1g]) (e2d p q h) rfl
def eqU(a b:List Nat):Bool:=decide (a=b)
theorem c3a(ca cb:Option (Option Nat))(a b:List Nat)(hl:a.length=b.length)(h5:a.length≤100000):sem L.env Mf 110 [sl ca (a.map u8R),sl cb (b.map u8R)] []=some (.bool (eqU a b),[]):=by
 suffices hs:∃r:AV×a04,(r=(.bool (eqU a b),[]))∧sem L.env Mf 110 [sl ca (a.map u8R),sl cb (b.map u8R)] []=some r by obtain⟨r,rfl,h3⟩:=hs;exact h3
 have e1:((a.length:Int)=b.length)=True:=eq_true (by omega)
 (refine svE Tryz.f110 ?_;simp only[Tryz.f110,gS])
 (repeat first|simp only[ww]|(apply xa;simp+decide only[go_sem,List.length_map,e1];rfl;kernel_rfl))
 refine a0t kp110_0 (λq F H1=>∃i:Nat,q=a.length-i∧i≤a.length∧F=[(0,sl ca (a.map u8R)),(1,sl cb (b.map u8R)),(12,.int .i64 a.length),(13,.int .i64 i)]∧H1=[]∧a.take i=b.take i) a.length ?_ ?_
 ·refine⟨_,_,?_,0,rfl,Nat.zero_le _,rfl,rfl,rfl⟩
  (simp+decide only[go_sem,a03,a00]<;>rfl)<;>rfl
 ·rintro q F H1 ⟨i,rfl,hi,rfl,rfl,hinv⟩
  by_cases hlt:i<a.length
  ·obtain⟨x,hx⟩:∃x,a[i]?=some x:=⟨_,z9e hlt⟩
   obtain⟨y,hy⟩:∃y,b[i]?=some y:=⟨_,z9e (by omega)⟩
   have hga:(a.map u8R)[i]?=some [.int .u8 x]:=by rw[List.getElem?_map,hx];rfl
   have hgb:(b.map u8R)[i]?=some [.int .u8 y]:=by rw[List.getElem?_map,hy];rfl
   have c1:(i:Int)<a.length:=by omega
   have hw:=wI1 (n:=i) (by omega);have hlt2:i<b.length:=by omega
   by_cases hxy:x=y
   ·have e2:((x:Int)=y)=True:=eq_true (by omega)
    (repeat first|simp only[ww]|(apply xa;simp+decide only[go_sem,c1];rfl;kernel_rfl))
    (repeat first|simp only[ww]|((with_reducible first|apply xs2|apply xI);(·simp+decide only[go_sem,hga,hgb,hlt,hlt2,e2,hw,List.length_map];rfl);with_reducible first|apply xT|apply xF|(·kernel_rfl)))
    refine a0b (a.length-(i+1)) (by omega) ⟨_,_,?_,i+1,rfl,hlt,rfl,rfl,by rw[List.take_add_one,List.take_add_one,hx,hy,hinv,hxy]⟩
    (simp+decide only[go_sem,a03,a00]<;>rfl)<;>rfl
   ·have e2:((x:Int)=y)=False:=eq_false (by omega)
    (repeat first|simp only[ww]|(apply xa;simp+decide only[go_sem,c1];rfl;kernel_rfl))
    (repeat first|simp only[ww]|((with_reducible first|apply xs2|apply xI);(·simp+decide only[go_sem,hga,hgb,hlt,hlt2,e2,List.length_map];rfl);with_reducible first|apply xT|apply xF|(·kernel_rfl)))
    refine a3q (vs:=[.bool false]) (r:=(_,_)) (by simp+decide only[go_sem]) (by simp+decide only[go_sem,a0j]<;>rfl) ?_;unfold eqU;rw[decide_eq_false (λe=>by rw[e,hy]at hx;exact hxy (z9o hx).symm)]
  ·obtain rfl:i=a.length:=by omega
   have c1:¬(a.length:Int)<a.length:=by omega
   rw[List.take_length,hl,List.take_length]at hinv
   (repeat first|simp only[ww]|(apply xa;simp+decide only[go_sem,c1];rfl;kernel_rfl))
   refine a32 (vs:=[.bool true]) (r:=(_,_)) (by simp+decide only[go_sem]) (by simp+decide only[go_sem,a0j]<;>rfl) ?_;unfold eqU;rw[decide_eq_true hinv]
theorem d4w(p q:Cb)(h1:p.ins=q.ins)(h2:p.sts=q.sts)(h5:p.n≤100000):sem L.env Mf 71 [p.enc,q.enc] []=some (.bool true,[]):=by
 unfold Cb.n at h5;have hc1:=λH=>a07 (E:=L.env) (draw:=false) (call:=sem L.env Mf) (g:=110) (fs:=[]) (cs:=[]) (ar:=[sl p.ci (p.ins.map u8R),sl q.ci (q.ins.map u8R)]) (H:=H) (by kernel_rfl) (by kernel_rfl) rfl (by simp+decide only[go_sem]) (c3a p.ci q.ci p.ins q.ins (by rw[h1]) (by omega)) rfl;have hc2:=λH=>a07 (E:=L.env) (draw:=false) (call:=sem L.env Mf) (g:=110) (fs:=[]) (cs:=[]) (ar:=[sl p.cs (p.sts.map u8R),sl q.cs (q.sts.map u8R)]) (H:=H) (by kernel_rfl) (by kernel_rfl) rfl (by simp+decide only[go_sem]) (c3a p.cs q.cs p.sts q.sts (by rw[h2]) (by omega)) rfl;have e1:eqU p.ins q.ins=true:=decide_eq_true h1;have e2:eqU p.sts q.sts=true:=decide_eq_true h2;rw[e1]at hc1;rw[e2]at hc2;unfold Cb.enc Cb.cells
 (refine sv Tryz.f71 ?_;simp only[Tryz.f71,gS])
 (repeat first|simp only[ww]|(apply xa;simp+decide only[go_sem,hc1,hc2];rfl;kernel_rfl))
 (apply fqb;simp+decide only[go_sem]<;>rfl)
theorem b8b{d:Bool}(H:a04)(p q:Cb)(h1:p.ins=q.ins)(h2:p.sts=q.sts)(h5:p.n≤100000):a0d L.env d (sem L.env Mf) (.func (.func 71) [] []) [p.enc,q.enc] H=some (.bool true,H,[]):=a07 (by kernel_rfl) (by kernel_rfl) rfl (by simp[a0a,a1g]) (d4w p q h1 h2 h5) rfl
theorem mk0{n:Nat}(h:n≤100000):c4e L.env 42 0 (n:Int)=true:=by have:=b6p (E:=L.env) (e:=42) (m:=n) (by omega) (by decide+kernel);unfold c4e at this⊢;simp only[Bool.and_eq_true,decide_eq_true_eq]at this⊢;omega
theorem e0u(p:Cb)(hl:p.n≤100000):sem L.env Mf 84 [p.enc] []=some (.agg [.slice 2 0 p.ins.length (some p.ins.length),.slice 3 0 p.sts.length (some p.sts.length)],
 [some (.row 2 [p.cells]),some (.row 2 [[.slice 2 0 p.ins.length (some p.ins.length),.slice 3 0 p.sts.length (some p.sts.length)]]),some (.row 1 (p.ins.map u8R)),some (.row 1 (p.sts.map u8R))]):=by
 unfold Cb.n at hl;have m1:=mk0 (n:=p.ins.length) (by omega);have m2:=mk0 (n:=p.sts.length) (by omega);have l1:=e4j p.ins;have l2:=e4j p.sts;have s1:=e3i p.ins;have s2:=e3i p.sts;have d1:List.drop p.ins.length (List.replicate p.ins.length [AV.int .u8 0])=[]:=List.drop_of_length_le (by simp);have d2:List.drop p.sts.length (List.replicate p.sts.length [AV.int .u8 0])=[]:=List.drop_of_length_le (by simp);unfold Cb.enc Cb.cells
 (refine sv Tryz.f84 ?_;simp only[Tryz.f84,gS])
 (repeat first|simp only[ww]|(apply xa;simp+decide only[go_sem];rfl;kernel_rfl))
 (repeat first|simp only[ww]|((with_reducible first|apply xs2|apply xI);(·simp+decide only[go_sem,m1,m2,l1,l2,s1,s2,d1,d2,List.length_map,List.length_replicate,Nat.zero_add,Nat.zero_le,Nat.le_refl,List.append_nil,List.nil_append];rfl);with_reducible first|apply xT|apply xF|(·kernel_rfl)))
 (apply fqb;simp+decide only[go_sem]<;>rfl)
def e4d(b:Nat)(p:Cb):a04:=[some (.row 2 [p.cells]),some (.row 2 [[.slice (b+2) 0 p.ins.length (some p.ins.length),.slice (b+3) 0 p.sts.length (some p.sts.length)]]),some (.row 1 (p.ins.map u8R)),some (.row 1 (p.sts.map u8R))]
theorem c2l{d:Bool}(H:a04)(p:Cb)(hl:p.n≤100000):a0d L.env d (sem L.env Mf) (.func (.func 84) [] []) [p.enc] H =
 some (.agg [.slice (H.length+2) 0 p.ins.length (some p.ins.length),.slice (H.length+3) 0 p.sts.length (some p.sts.length)],H++e4d H.length p,[]):=by
 have hr:=a1g p;have hn:∀π,ren π p.enc=p.enc:=λπ=>a0f π _ hr;have h1:=λπ=>a4i π p.ins;have h2:=λπ=>a4i π p.sts;have hc:=a18 (sem L.env Mf 84) [p.enc] H (σ:=[]) (by simp only[a0a,hr,List.append_nil];rfl) rfl rfl (args':=[p.enc]) (by simp[hn]) (H0:=[]) rfl (e0u p hl);refine c3i (by kernel_rfl) (by kernel_rfl) rfl (hc.trans ?_) (by simp);unfold e4d Cb.cells;simp only[a4w,List.length_nil,List.drop_zero,List.map_cons,List.map_nil,Option.map_some,a0e,h1,h2,e0i,ren,b6h,d26]
theorem d0y(p:Cb):sem L.env Mf 117 [.nilslice,.func (.func 83) [] [.ptr 0 0 0]] [some (.row 2 [p.cells])]=some (.int .i64 (-1),[some (.row 2 [p.cells])]):=by
 unfold Cb.cells
 (refine sv Tryz.f117 ?_;simp only[Tryz.f117,gS])
 (repeat first|simp only[ww]|(apply xa;simp+decide only[go_sem];rfl;kernel_rfl))
 refine a0t kp117_0 (λq F H1=>F=[(0,.nilslice),(1,.func (.func 83) [] [.ptr 0 0 0]),(7,.int .i64 0),(8,.int .i64 0)]∧H1=[some (.row 2 [[sl p.ci (p.ins.map u8R),sl p.cs (p.sts.map u8R)]])]) 0 ?_ ?_
 ·refine⟨_,_,?_,rfl,rfl⟩
  (simp+decide only[go_sem,a03,a00]<;>rfl)<;>rfl
 ·rintro q F H1 ⟨rfl,rfl⟩
  (repeat first|simp only[ww]|(apply xa;simp+decide only[go_sem];rfl;kernel_rfl))
  (apply fqb;simp+decide only[go_sem]<;>rfl)
theorem d1o(p:Cb):sem L.env Mf 82 [.nilslice,.func (.func 83) [] [.ptr 0 0 0]] [some (.row 2 [p.cells])]=some (.bool false,[some (.row 2 [p.cells])]):=by
 have hc:=a1b (E:=L.env) (draw:=false) (call:=sem L.env Mf) (g:=117) (fs:=[]) (cs:=[]) (ar:=[.nilslice,.func (.func 83) [] [.ptr 0 0 0]]) (H:=[some (.row 2 [p.cells])]) (b:=0) (by kernel_rfl) (by kernel_rfl) rfl rfl (by unfold Cb.cells;simp+decide only[go_sem]<;>rfl) (FlatO.row (FlatR.cons (by unfold Cb.cells;simp+decide only[go_sem]) FlatR.nil)) rfl rfl (d0y p) rfl;unfold Cb.cells at hc⊢
 (refine sv Tryz.f82 ?_;simp only[Tryz.f82,gS])
 (repeat first|simp only[ww]|(apply xa;simp+decide only[go_sem,hc];rfl;kernel_rfl))
 (apply fqb;simp+decide only[go_sem]<;>rfl)
def a5f(p:Cb):Cb:=⟨some (some p.ins.length),p.ins,some (some p.sts.length),p.sts⟩
theorem d9w(l:List Nat):List.take l.length (l.map u8R)=l.map u8R:=List.take_of_length_le (by simp)
theorem d07(p:Cb)(h:p.ok):sem L.env Mf 39 [p.enc,.nilslice] []=some (.tuple [(a5f p).enc,.int .i64 0],[]):=by
 have hl:=h.1;have hck:=a7p (d:=false) (p:=p) (h:=h);have hco:∀X,a0d L.env false (sem L.env Mf) (.func (.func 82) [] []) [.nilslice,.func (.func 83) [] [.ptr 0 0 0]] [some (.row 2 [p.cells]),X]=some (.bool false,[some (.row 2 [p.cells]),X],[0]):=λX=>a1b (b:=0) (by kernel_rfl) (by kernel_rfl) rfl rfl (by unfold Cb.cells;simp+decide only[go_sem]<;>rfl) (FlatO.row (FlatR.cons (by unfold Cb.cells;simp+decide only[go_sem]) FlatR.nil)) rfl (args':=[.nilslice,.func (.func 83) [] [.ptr 0 0 0]]) rfl (d1o p) rfl;have how:=λH=>c2l (d:=false) H p (by unfold Cb.n;omega);unfold e4d at how;unfold a5f;unfold Cb.enc Cb.cells at hck hco how⊢;dsimp only
 (refine sv Tryz.f39 ?_;simp only[Tryz.f39,gS])
 (repeat first|simp only[ww]|(apply xa;simp+decide only[go_sem,hck,hco,how];rfl;kernel_rfl))
 refine a0t kp39_0 (λq F H1=>F=[(2,.ptr 0 0 0),(4,.ptr 1 0 0),(7,.ptr 2 0 0),(22,.nilslice),(23,.int .i64 0),(24,.int .i64 0)]∧
  H1=[some (.row 2 [[sl p.ci (p.ins.map u8R),sl p.cs (p.sts.map u8R)]]),some (.row 2 [[.nilslice,.nilslice]]),some (.row 2 [[.slice 3 0 p.ins.length (some p.ins.length),.slice 4 0 p.sts.length (some p.sts.length)]]),some (.row 1 (p.ins.map u8R)),some (.row 1 (p.sts.map u8R))]) 0 ?_ ?_
 ·refine⟨_,_,?_,rfl,rfl⟩
  (simp+decide only[go_sem,a03,a00,a1v,a4i]<;>rfl)<;>rfl
 ·rintro q F H1 ⟨rfl,rfl⟩
  (repeat first|simp only[ww]|(apply xa;simp+decide only[go_sem];rfl;kernel_rfl))
  (apply fqb;simp+decide only[go_sem,e7a,d9w,List.length_map]<;>rfl)
theorem c46(H:a04)(p:Cb)(h:p.ok):a0d L.env false (sem L.env Mf) (.func (.func 39) [] []) [p.enc,.nilslice] H=some (.tuple [(a5f p).enc,.int .i64 0],H,[]):=a07 (by kernel_rfl) (by kernel_rfl) rfl (by simp[a0a,a1g,refs]) (d07 p h) (by simp[refs,a0a,a1g])
theorem d3t(b:List Nat)(X:List (List AV))(i k x y:Nat)(hX:FlatR X)(hx:X[k]?=some [.int .u8 x])(hy:b[i]?=some y):sem L.env Mf yId [.yfn 0,.int .i64 i,.ptr 2 k 0] [some (.yloop 4000000 [(8,.ptr 1 0 0),(7000000,.junk)] .ready),some (.row 1 [[slU b]]),some (.row 1 X)]=some (.bool true,[some (.yloop 4000000 [(8,.ptr 1 0 0),(7000000,.junk)] .ready),some (.row 1 [[slU b]]),some (.row 1 (X.set k [.int .u8 (min x y:Nat)]))]):=by
 have hri:L.env.G.rnd 4000000=a5p 0 (rfs 42 40 0 (Tryz.f40.body.getD .skip)):=by kernel_rfl
 simp only[Tryz.f40,gS,rfs,a5p,List.append_nil,List.nil_append,List.cons_append,b5q,decide_true,cond_true,cond_false,reduceCtorEq,Nat.reduceEqDiff,decide_false]at hri;have hg:(b.map u8R)[i]?=some [.int .u8 y]:=by rw[List.getElem?_map,hy];rfl
 have hlt:=(List.getElem?_eq_some_iff.1 hy).1;have hkl:=(List.getElem?_eq_some_iff.1 hx).1;have hne:b≠[]:=by intro e;rw[e]at hlt;simp at hlt
 have hmin:(if(y:Int)<(x:Int)then(y:Int)else(x:Int))=((min x y:Nat):Int):=by
  by_cases h:y<x
  ·rw[if_pos (by omega),Nat.min_eq_right (by omega)]
  ·rw[if_neg (by omega),Nat.min_eq_left (by omega)]
 rw[c5t hne];refine b24 yno e5o rfl hri rfl rfl ?_;simp only[a9n,b22]
 (repeat first|simp only[ww]|(apply xa;simp+decide only[go_sem];rfl;kernel_rfl))
 refine d4y rfl ?_
 (repeat first|simp only[ww]|((with_reducible first|apply xs2|apply xI);(·simp+decide only[go_sem,hg,hlt,hx,hkl,hmin,List.length_map];rfl);with_reducible first|apply xT|apply xF|(·kernel_rfl)))
 exact d01 rfl rfl
def mrH(b:List Nat)(n m:Nat)(X Y:List (List AV)):a04:=[some (.yloop 4000000 [(8,.ptr 1 0 0),(7000000,.junk)] .ready),some (.row 1 [[slU b]]),some (.row 2 [[.slice 3 0 n (some n),.slice 4 0 m (some m)]]),some (.row 1 X),some (.row 1 Y)]
theorem e15(d:Bool)(b:List Nat)(n m:Nat)(X Y:List (List AV))(i k x y:Nat)(hX:FlatR X)(hx:X[k]?=some [.int .u8 x])(hy:b[i]?=some y):a0d L.env d (sem L.env Mf) (.yfn 0) [.int .i64 i,.ptr 3 k 0] (mrH b n m X Y)=some (.bool true,mrH b n m (X.set k [.int .u8 (min x y:Nat)]) Y,[0,1,3]):=by
 have h3:=a14 b;have h4:=λπ=>a9l π b;have h5:=a05 hX;have h6:=λπ=>a02 π hX;have hX2:FlatR (X.set k [.int .u8 (min x y:Nat)]):=λr hr=>by
  rcases List.mem_or_eq_of_mem_set hr with h|rfl
  ·exact hX r h
  ·rfl
 have h7:=λπ=>a02 π hX2;unfold mrH;refine c25 ((a18 (sem L.env Mf yId) [.yfn 0,.int .i64 i,.ptr 3 k 0] _ (σ:=[0,1,3]) (by simp+decide only[go_sem,h3,h5]) rfl rfl (args':=[.yfn 0,.int .i64 i,.ptr 2 k 0]) rfl (H0:=_) (by simp only[a19,List.map_cons,List.map_nil,a01,List.getElem?_cons_succ,List.getElem?_cons_zero,Option.join_some,Option.map_some,a0e,h4,h6];rfl) (d3t b X i k x y hX hx hy)).trans ?_) rfl;simp+decide only[go_sem,h4,h7]<;>rfl
theorem e14(d:Bool)(b:List Nat)(n m:Nat)(X Y:List (List AV))(i k x y:Nat)(hX:FlatR Y)(hx:Y[k]?=some [.int .u8 x])(hy:b[i]?=some y):a0d L.env d (sem L.env Mf) (.yfn 0) [.int .i64 i,.ptr 4 k 0] (mrH b n m X Y)=some (.bool true,mrH b n m X (Y.set k [.int .u8 (min x y:Nat)]),[0,1,4]):=by
 have h3:=a14 b;have h4:=λπ=>a9l π b;have h5:=a05 hX;have h6:=λπ=>a02 π hX;have hX2:FlatR (Y.set k [.int .u8 (min x y:Nat)]):=λr hr=>by
  rcases List.mem_or_eq_of_mem_set hr with h|rfl
  ·exact hX r h
  ·rfl
 have h7:=λπ=>a02 π hX2;unfold mrH;refine c25 ((a18 (sem L.env Mf yId) [.yfn 0,.int .i64 i,.ptr 4 k 0] _ (σ:=[0,1,4]) (by simp+decide only[go_sem,h3,h5]) rfl rfl (args':=[.yfn 0,.int .i64 i,.ptr 2 k 0]) rfl (H0:=_) (by simp only[a19,List.map_cons,List.map_nil,a01,List.getElem?_cons_succ,List.getElem?_cons_zero,Option.join_some,Option.map_some,a0e,h4,h6];rfl) (d3t b Y i k x y hX hx hy)).trans ?_) rfl;simp+decide only[go_sem,h4,h7]<;>rfl
def mzT(a b:List Nat)(i:Nat):List Nat:=(List.zipWith min a b).take i++a.drop i
theorem b1g(a b:List Nat):mzT a b 0=a:=by simp[mzT]
theorem c6p{a b:List Nat}(h:a.length≤b.length)(i:Nat):(mzT a b i).length=a.length:=by unfold mzT;simp;omega
theorem c11{a b:List Nat}(h:a.length≤b.length):mzT a b a.length=List.zipWith min a b:=by unfold mzT;rw[List.drop_length,List.append_nil,List.take_of_length_le (by simp;omega)]
theorem c6q{a b:List Nat}{i x:Nat}(h:a.length≤b.length)(hx:a[i]?=some x):(mzT a b i)[i]?=some x:=by
 have hi:=(List.getElem?_eq_some_iff.1 hx).1;unfold mzT;have hl:((List.zipWith min a b).take i).length=i:=by simp;omega
 rw[List.getElem?_append_right (by omega),hl,Nat.sub_self,List.getElem?_drop,Nat.add_zero];exact hx
theorem c6o{a b:List Nat}{i x y:Nat}(h:a.length≤b.length)(hx:a[i]?=some x)(hy:b[i]?=some y):(mzT a b i).set i (min x y)=mzT a b (i+1):=by
 have hi:=(List.getElem?_eq_some_iff.1 hx).1;unfold mzT;have hl:((List.zipWith min a b).take i).length=i:=by simp;omega
 have hz:(List.zipWith min a b)[i]?=some (min x y):=by rw[List.getElem?_zipWith,hx,hy]
 have hd:a.drop i=x::a.drop (i+1):=by rw[←List.getElem_cons_drop hi,(List.getElem?_eq_some_iff.1 hx).2]
 rw[List.set_append_right _ _ (by omega),hl,Nat.sub_self,hd,List.set_cons_zero,List.take_add_one,hz,Option.toList_some,List.append_assoc]
 try rfl
theorem d33(l:List Nat)(i z:Nat):(l.map u8R).set i [AV.int .u8 z]=(l.set i z).map u8R:=by rw[List.map_set];rfl
theorem d25(ins sts bi bs:List Nat)(h1:ins.length=bi.length)(h2:sts.length=bs.length)(hl:ins.length+sts.length<100000) :
 sem L.env Mf 100 [.yfn 0,.ptr 2 0 0] (mrH (bi++bs) ins.length sts.length (ins.map u8R) (sts.map u8R))=some (.tuple [],mrH (bi++bs) ins.length sts.length ((List.zipWith min ins bi).map u8R) ((List.zipWith min sts bs).map u8R)):=by
 suffices hs:∃r:AV×a04,(r=(.tuple [],mrH (bi++bs) ins.length sts.length ((List.zipWith min ins bi).map u8R) ((List.zipWith min sts bs).map u8R)))∧sem L.env Mf 100 [.yfn 0,.ptr 2 0 0] (mrH (bi++bs) ins.length sts.length (ins.map u8R) (sts.map u8R))=some r by obtain⟨r,rfl,h3⟩:=hs;exact h3
 have g1:=a14 (bi++bs);have hgc:∀(X Y:List Nat) (keep:List Nat) (F F':Frm),a1l keep F=F'→a0a (F'.map (·.2))=[0,2]→gcD 5 keep F (mrH (bi++bs) ins.length sts.length (X.map u8R) (Y.map u8R))=some (F',mrH (bi++bs) ins.length sts.length (X.map u8R) (Y.map u8R)):=λX Y keep F F' hk hF=>
  c7l rfl hk (by rw[hF];intro b hb;unfold mrH;simp at hb;simp;omega) (by rw[hF];simp) (λb c hc=>by
   unfold mrH at hc⊢
   match b with
   |0=>simp[a01,a0k,a8k,refs]at hc;simp;omega
   |1=>simp[a01,a0k,a0a,refs,g1]at hc
   |2=>simp[a01,a0k,a0a,refs]at hc;simp;omega
   |3=>simp only[a01,List.getElem?_cons_succ,List.getElem?_cons_zero,Option.join_some,a0k,a1v]at hc;simp at hc
   |4=>simp only[a01,List.getElem?_cons_succ,List.getElem?_cons_zero,Option.join_some,a0k,a1v]at hc;simp at hc
   |b+5=>simp[a01,a0k]at hc) (by
   unfold mrH;have e1:=a1v X;have e2:=a1v Y;simp only[List.flatMap_cons,List.flatMap_nil,a0k,e1,e2,g1,a8k,refs,a0a,List.append_nil,List.nil_append];simp)
 have hbl:(bi++bs).length=ins.length+sts.length:=by rw[List.length_append];omega
 (refine svE Tryz.f100 ?_;simp only[Tryz.f100,gS])
 rw[show(mrH (bi++bs) ins.length sts.length (ins.map u8R) (sts.map u8R)).length=5 from rfl];unfold mrH
 (repeat first|simp only[ww]|(apply xa;simp+decide only[go_sem];rfl;kernel_rfl))
 refine a0t kp100_0 (λq F H1=>∃i:Nat,q=ins.length-i∧i≤ins.length∧F=[(0,.yfn 0),(1,.ptr 2 0 0),(7,.int .i64 ins.length),(8,.int .i64 i)]∧H1=mrH (bi++bs) ins.length sts.length ((mzT ins bi i).map u8R) (sts.map u8R)) ins.length ?_ ?_
 ·exact⟨_,_,by rw[←b1g ins bi] ; exact hgc (mzT ins bi 0) sts _ _ _ (by simp+decide only[go_sem]<;>rfl) (by simp+decide only[go_sem]),0,rfl,Nat.zero_le _,by rw[b1g];rfl,rfl⟩
 ·rintro q F H1 ⟨i,rfl,hi,rfl,rfl⟩
  have hml:=c6p (a:=ins) (b:=bi) (by omega) i;by_cases hlt:i<ins.length
  ·obtain⟨x,hx⟩:∃x,ins[i]?=some x:=⟨_,z9e hlt⟩
   obtain⟨y,hy⟩:∃y,bi[i]?=some y:=⟨_,z9e (by omega)⟩
   have hy2:(bi++bs)[i]?=some y:=by rw[List.getElem?_append_left (by omega)];exact hy
   have hg:=c6q (b:=bi) (by omega) hx;have hgr:((mzT ins bi i).map u8R)[i]?=some [.int .u8 x]:=by rw[List.getElem?_map,hg];rfl
   have hst:=e15 false (bi++bs) ins.length sts.length ((mzT ins bi i).map u8R) (sts.map u8R) i i x y (a5d _) hgr hy2;rw[d33,c6o (by omega) hx hy]at hst;have c1:(i:Int)<ins.length:=by omega
   have hw:=wI1 (n:=i) (by omega);have hle:ins.length≤(mzT ins bi i).length:=by omega
   unfold mrH at hst⊢
   (repeat first|simp only[ww]|(apply xa;simp+decide only[go_sem,c1,hlt,hst,hw,hle,List.length_map];rfl;kernel_rfl))
   refine a0b (ins.length-(i+1)) (by omega) ⟨_,_,hgc (mzT ins bi (i+1)) sts _ _ _ (by simp+decide only[go_sem]<;>rfl) (by simp+decide only[go_sem]),i+1,rfl,hlt,rfl,rfl⟩
  ·obtain rfl:i=ins.length:=by omega
   have c1:¬(ins.length:Int)<ins.length:=by omega
   rw[c11 (by omega)]at *;have hml:=c11 (a:=ins) (b:=bi) (by omega);generalize hZ:List.zipWith min ins bi=Z at *;unfold mrH
   (repeat first|simp only[ww]|(apply xa;simp+decide only[go_sem,c1];rfl;kernel_rfl))
   refine a0t kp100_2 (λq F H1=>∃j:Nat,q=sts.length-j∧j≤sts.length∧F=[(0,.yfn 0),(1,.ptr 2 0 0),(22,.int .i64 sts.length),(23,.int .i64 j)]∧H1=mrH (bi++bs) ins.length sts.length (Z.map u8R) ((mzT sts bs j).map u8R)) sts.length ?_ ?_
   ·exact⟨_,_,by rw[←b1g sts bs] ; exact hgc Z (mzT sts bs 0) _ _ _ (by simp+decide only[go_sem]<;>rfl) (by simp+decide only[go_sem]),0,rfl,Nat.zero_le _,by rw[b1g];rfl,rfl⟩
   ·rintro q F H1 ⟨j,rfl,hj,rfl,rfl⟩
    have hml2:=c6p (a:=sts) (b:=bs) (by omega) j;by_cases hlt2:j<sts.length
    ·obtain⟨x,hx⟩:∃x,sts[j]?=some x:=⟨_,z9e hlt2⟩
     obtain⟨y,hy⟩:∃y,bs[j]?=some y:=⟨_,z9e (by omega)⟩
     have hy2:(bi++bs)[ins.length+j]?=some y:=by rw[h1,List.getElem?_append_right (by omega),Nat.add_sub_cancel_left];exact hy
     have hg:=c6q (b:=bs) (by omega) hx;have hgr:((mzT sts bs j).map u8R)[j]?=some [.int .u8 x]:=by rw[List.getElem?_map,hg];rfl
     have hst:=e14 true (bi++bs) ins.length sts.length (Z.map u8R) ((mzT sts bs j).map u8R) (ins.length+j) j x y (a5d _) hgr hy2;rw[d33,c6o (by omega) hx hy]at hst;have c2:(j:Int)<sts.length:=by omega
     have hw:=wI1 (n:=j) (by omega);have hw2:IntKind.i64.wrap ((ins.length:Int)+(j:Int))=((ins.length+j:Nat):Int):=by rw[w64 (by omega) (by omega)];omega
     have hle2:sts.length≤(mzT sts bs j).length:=by omega
     unfold mrH at hst⊢
     (repeat first|simp only[ww]|(apply xa;simp+decide only[go_sem,c2];rfl;kernel_rfl))
     (repeat first|simp only[ww]|((with_reducible first|apply xs2|apply xI);(·simp+decide only[go_sem,hlt2,hst,hw,hw2,hle2,List.length_map];rfl);with_reducible first|apply xT|apply xF|(·kernel_rfl)))
     refine a0b (sts.length-(j+1)) (by omega) ⟨_,_,hgc Z (mzT sts bs (j+1)) _ _ _ (by simp+decide only[go_sem]<;>rfl) (by simp+decide only[go_sem]),j+1,rfl,hlt2,rfl,rfl⟩
    ·obtain rfl:j=sts.length:=by omega
     have c2:¬(sts.length:Int)<sts.length:=by omega
     rw[c11 (by omega)];unfold mrH
     (repeat first|simp only[ww]|(apply xa;simp+decide only[go_sem,c2];rfl;kernel_rfl))
     refine a32 (vs:=[]) (r:=(_,_)) (by simp+decide only[go_sem]) ?_ rfl;have e1:=λπ=>a4i π Z;have e2:=λπ=>a4i π (List.zipWith min sts bs);have e3:=λπ=>a9l π (bi++bs);simp+decide only[go_sem,a0j,e1,e2,e3,a2p]<;>rfl
def a3h(a b:Cb):Cb:=⟨some (some a.ins.length),List.zipWith min a.ins b.ins,some (some a.sts.length),List.zipWith min a.sts b.sts⟩
theorem d23(n m:Nat)(X Y:List (List AV))(hX:FlatR X)(hY:FlatR Y):sem L.env Mf 51 [.agg [.slice 0 0 n (some n),.slice 1 0 m (some m)]] [some (.row 1 X),some (.row 1 Y)] =
 some (.func (.func 100) [] [.ptr 2 0 0],[some (.row 1 X),some (.row 1 Y),some (.row 2 [[.slice 0 0 n (some n),.slice 1 0 m (some m)]])]):=by
 (refine sv Tryz.f51 ?_;simp only[Tryz.f51,gS])
 (repeat first|simp only[ww]|(apply xa;simp+decide only[go_sem];rfl;kernel_rfl))
 (apply fqb;simp+decide only[go_sem,a0j]<;>rfl)
theorem c53(n m:Nat)(X Y:List (List AV))(hX:FlatR X)(hY:FlatR Y)(a b c d e f g:Option AObj) :
 a0d L.env false (sem L.env Mf) (.func (.func 51) [] []) [.agg [.slice 5 0 n (some n),.slice 6 0 m (some m)]] [a,b,c,d,e,some (.row 1 X),some (.row 1 Y),f,g] =
 some (.func (.func 100) [] [.ptr 9 0 0],[a,b,c,d,e,some (.row 1 X),some (.row 1 Y),f,g,some (.row 2 [[.slice 5 0 n (some n),.slice 6 0 m (some m)]])],[5,6]):=by
 have h1:=a05 hX;have h2:=a05 hY;have h3:=λπ=>a02 π hX;have h4:=λπ=>a02 π hY;refine c3i (by kernel_rfl) (by kernel_rfl) rfl ((a18 (sem L.env Mf 51) [.agg [.slice 5 0 n (some n),.slice 6 0 m (some m)]] _ (σ:=[5,6]) (by simp+decide only[go_sem,h1,h2]) rfl rfl (args':=[.agg [.slice 0 0 n (some n),.slice 1 0 m (some m)]]) rfl (H0:=_) (by simp only[a19,List.map_cons,List.map_nil,a01,List.getElem?_cons_succ,List.getElem?_cons_zero,Option.join_some,Option.map_some,a0e,h3,h4]<;>rfl) (d23 n m X Y hX hY)).trans ?_) (by simp);simp+decide only[go_sem,h3,h4]<;>rfl
theorem e10(a b:Cb)(h:Shp a b)(hc:a43 a b=true):sem L.env Mf 40 [a.enc,b.enc] []=some (.tuple [(a3h a b).enc,.int .i64 0],[]):=by
 have hl:=h.okp.1;have hl2:=h.okq.1;have hi:=h.ins;have hs:=h.sts;have hck:=b9r (d:=false) (p:=a) (q:=b) (hp:=h.okp) (hq:=h.okq) (h1:=h.ins) (h2:=h.sts);have hco:=a84 (d:=false) (p:=a) (q:=b) (h:=h);rw[hc]at hco;have how:=λH=>c2l (d:=true) H a (by unfold Cb.n;omega);have hfl:=λH=>b9e (d:=true) H b (by omega);have hbm:=λx y z u v f g=>c53 a.ins.length a.sts.length (a.ins.map u8R) (a.sts.map u8R) (a5d _) (a5d _) x y z u v f g;have hb2:=d25 a.ins a.sts b.ins b.sts hi hs (by omega);unfold mrH at hb2;have hu:=a14 (b.ins++b.sts);have hun:=λπ=>a9l π (b.ins++b.sts);have r1:=λπ=>a4i π a.ins;have r2:=λπ=>a4i π a.sts;have r3:=λπ=>a4i π (List.zipWith min a.ins b.ins);have r4:=λπ=>a4i π (List.zipWith min a.sts b.sts);have q1:=a1v a.ins;have q2:=a1v a.sts;have hcl:∀x y z u v w,a1i (sem L.env Mf 100) [.yfn 10,.ptr 9 0 0] [x,y,z,u,v,some (.row 1 (a.ins.map u8R)),some (.row 1 (a.sts.map u8R)),w,some (.row 1 [[slU (b.ins++b.sts)]]),some (.row 2 [[.slice 5 0 a.ins.length (some a.ins.length),.slice 6 0 a.sts.length (some a.sts.length)]]),some (.yloop 4000000 [(8,.ptr 8 0 0),(7000000,.junk)] .ready)] =
  some (.tuple [],[x,y,z,u,v,some (.row 1 ((List.zipWith min a.ins b.ins).map u8R)),some (.row 1 ((List.zipWith min a.sts b.sts).map u8R)),w,some (.row 1 [[slU (b.ins++b.sts)]]),some (.row 2 [[.slice 5 0 a.ins.length (some a.ins.length),.slice 6 0 a.sts.length (some a.sts.length)]]),some (.yloop 4000000 [(8,.ptr 8 0 0),(7000000,.junk)] .ready)],[10,8,9,5,6]):=by
  intro x y z u v w;refine(a18 (sem L.env Mf 100) [.yfn 10,.ptr 9 0 0] _ (σ:=[10,8,9,5,6]) (by simp+decide only[go_sem,hu,q1,q2]) rfl rfl (args':=[.yfn 0,.ptr 2 0 0]) rfl (H0:=_) (by simp only[a19,List.map_cons,List.map_nil,a01,List.getElem?_cons_succ,List.getElem?_cons_zero,Option.join_some,Option.map_some,a0e,hun,r1,r2]<;>rfl) hb2).trans ?_;simp+decide only[go_sem,hun,r3,r4]<;>rfl
 unfold e4d at how;unfold a3h Cb.all at *;unfold Cb.enc Cb.cells at *;dsimp only at *
 (refine sv Tryz.f40 ?_;simp only[Tryz.f40,gS])
 (repeat first|simp only[ww]|(apply xa;simp+decide only[go_sem,hck,hco];rfl;kernel_rfl))
 (repeat first|simp only[ww]|((with_reducible first|apply xs2|apply xI);(·simp+decide only[go_sem,how,hfl,a24,a40,a2u];rfl);with_reducible first|apply xT|apply xF|(·kernel_rfl)))
 (repeat first|simp only[ww]|(apply xa;simp+decide only[go_sem,hbm];rfl;kernel_rfl))
 refine d4g kp40_0 (by simp+decide only[go_sem]<;>rfl) rfl (by kernel_rfl) (hcl _ _ _ _ _ _) ?_;show bk 0 _ .normal _ [_,_,_,_,_,_,_,_,_,_,none]
 (repeat first|simp only[ww]|(apply xa;simp+decide only[go_sem];rfl;kernel_rfl))
 have t1:List.take a.ins.length ((List.zipWith min a.ins b.ins).map u8R)=(List.zipWith min a.ins b.ins).map u8R:=List.take_of_length_le (by simp;omega);have t2:List.take a.sts.length ((List.zipWith min a.sts b.sts).map u8R)=(List.zipWith min a.sts b.sts).map u8R:=List.take_of_length_le (by simp;omega);have k1:a.ins.length≤min a.ins.length b.ins.length:=by omega
 have k2:a.sts.length≤min a.sts.length b.sts.length:=by omega
 (apply fqb;simp+decide only[go_sem,t1,t2,k1,k2,e7a,List.length_map,List.length_zipWith]<;>rfl)
theorem c2q{d:Bool}(H:a04)(a b:Cb)(h:Shp a b)(hc:a43 a b=true):a0d L.env d (sem L.env Mf) (.func (.func 40) [] []) [a.enc,b.enc] H=some (.tuple [(a3h a b).enc,.int .i64 0],H,[]):=a07 (by kernel_rfl) (by kernel_rfl) rfl (by simp[a0a,a1g]) (e10 a b h hc) (by simp[refs,a0a,a1g])
theorem a2y(p:Cb):FlatR [p.cells]:=by unfold Cb.cells;exact FlatR.cons (by simp+decide only[go_sem]) FlatR.nil
theorem b73(l:List Cb):FlatR (l.map Cb.cells):=FlatR.map λp=>by unfold Cb.cells;simp+decide only[go_sem]
theorem a4v(l:List Cb):(l.map Cb.cells).flatMap a0a=[]:=a05 (b73 l)
theorem b14(π:Nat→Option Nat)(l:List Cb):(l.map Cb.cells).map (λr=>r.map (ren π))=l.map Cb.cells:=a02 π (b73 l)
theorem e17(p q:Cb)(h:Shp p q):sem L.env Mf 37 [q.enc,.ptr 0 0 0] [some (.row 2 [p.cells])]=some (.bool (a43 p q),[some (.row 2 [p.cells])]):=by
 have hc:=a84 (d:=false) (p:=p) (q:=q) (h:=h);unfold Cb.enc at hc⊢;unfold Cb.cells at hc⊢
 (refine sv Tryz.f37 ?_;simp only[Tryz.f37,gS])
 (repeat first|simp only[ww]|(apply xa;simp+decide only[go_sem,hc];rfl;kernel_rfl))
 (apply fqb;simp+decide only[go_sem]<;>rfl)
theorem d0j(p q:Cb)(h:Shp p q)(X:Option AObj):a0d L.env false (sem L.env Mf) (.func (.func 37) [] [.ptr 1 0 0]) [q.enc] [X,some (.row 2 [p.cells])]=some (.bool (a43 p q),[X,some (.row 2 [p.cells])],[1]):=a1b (fs:=[]) (cs:=[.ptr 1 0 0]) (args:=[q.enc,.ptr 1 0 0]) (b:=1) (by kernel_rfl) (by kernel_rfl) rfl rfl (a0m (a2y p)) (FlatO.row (a2y p)) (by simp[a0a,refs,a1g]) (args':=[q.enc,.ptr 0 0 0]) (by have:=a0f (a3w [1]) _ (a1g q);simp only[List.map_cons,List.map_nil,this];rfl) (e17 p q h) rfl
def d95:Option Nat→Int|none=>-1|some k=>k
theorem d6a(p:Cb)(l:List Cb)(h:∀q∈l,Shp p q)(hl:l.length≤1000):sem L.env Mf 36 [.slice 0 0 l.length none,.func (.func 37) [] [.ptr 1 0 0]] [some (.row 2 (l.map Cb.cells)),some (.row 2 [p.cells])] =
 some (.int .i64 (d95 (l.findIdx? (a43 p))),[some (.row 2 (l.map Cb.cells)),some (.row 2 [p.cells])]):=by
 suffices hs:∃r:AV×a04,(r=(.int .i64 (d95 (l.findIdx? (a43 p))),[some (.row 2 (l.map Cb.cells)),some (.row 2 [p.cells])]))∧sem L.env Mf 36 [.slice 0 0 l.length none,.func (.func 37) [] [.ptr 1 0 0]] [some (.row 2 (l.map Cb.cells)),some (.row 2 [p.cells])]=some r by obtain⟨r,rfl,h3⟩:=hs;exact h3
 have hp:=a2y p;have hp0:=a05 hp;have hp1:=λπ=>a02 π hp;have hcc:=λq hq X=>d0j p q hq X;generalize hPC:p.cells=PC at *
 (refine svE Tryz.f36 ?_;simp only[Tryz.f36,gS])
 (repeat first|simp only[ww]|(apply xa;simp+decide only[go_sem];rfl;kernel_rfl))
 refine a0t kp36_0 (λq F H1=>∃i:Nat,q=l.length-i∧i≤l.length∧F=[(0,.slice 0 0 l.length none),(1,.func (.func 37) [] [.ptr 1 0 0]),(7,.int .i64 l.length),(8,.int .i64 i)]∧H1=[some (.row 2 (l.map Cb.cells)),some (.row 2 [PC])]∧∀j q,j<i→l[j]?=some q→a43 p q=false) l.length ?_ ?_
 ·refine⟨_,_,?_,0,rfl,Nat.zero_le _,rfl,rfl,λj q hj=>by omega⟩
  (simp+decide only[go_sem,a03,a00,a4v,b14,hp0,hp1]<;>rfl)<;>rfl
 ·rintro n F H1 ⟨i,rfl,hi,rfl,rfl,hno⟩
  by_cases hlt:i<l.length
  ·obtain⟨q,hq⟩:∃q,l[i]?=some q:=⟨_,z9e hlt⟩
   have hqs:=h q (List.mem_of_getElem? hq);have hst:a0d L.env false (sem L.env Mf) (.func (.func 37) [] [.ptr 1 0 0]) [.agg [sl q.ci (q.ins.map u8R),sl q.cs (q.sts.map u8R)]] [some (.row 2 (l.map Cb.cells)),some (.row 2 [PC])]=some (.bool (a43 p q),[some (.row 2 (l.map Cb.cells)),some (.row 2 [PC])],[1]):=hcc q hqs _;have hg:(l.map Cb.cells)[i]?=some [sl q.ci (q.ins.map u8R),sl q.cs (q.sts.map u8R)]:=by rw[List.getElem?_map,hq];rfl
   have c1:(i:Int)<l.length:=by omega
   have hw:=wI1 (n:=i) (by omega);by_cases hb:a43 p q=true
   ·rw[hb]at hst;have hf:l.findIdx? (a43 p)=some i:=by
     rw[List.findIdx?_eq_some_iff_getElem];refine⟨hlt,by rw[(List.getElem?_eq_some_iff.1 hq).2];exact hb,λj hj=>?_⟩;have:=hno j l[j] hj (z9e (by omega));rw[this];simp
    (repeat first|simp only[ww]|(apply xa;simp+decide only[go_sem,c1,hlt,hg,hst,List.length_map];rfl;kernel_rfl))
    refine a3q (vs:=[.int .i64 i]) (r:=(_,_)) (by simp+decide only[go_sem]) (by simp+decide only[go_sem,a0j,b14,hp1]<;>rfl) ?_;rw[hf];rfl
   ·have hb:a43 p q=false:=by simpa using hb
    rw[hb]at hst
    (repeat first|simp only[ww]|(apply xa;simp+decide only[go_sem,c1,hlt,hg,hst,hw,List.length_map];rfl;kernel_rfl))
    refine a0b (l.length-(i+1)) (by omega) ⟨_,_,?_,i+1,rfl,hlt,rfl,rfl,λj q' hj hq'=>?_⟩
    ·(simp+decide only[go_sem,a03,a00,a4v,b14,hp0,hp1]<;>rfl)<;>rfl
    ·rcases Nat.lt_succ_iff_lt_or_eq.1 hj with h1|rfl
     ·exact hno j q' h1 hq'
     ·rw[hq]at hq';cases hq';exact hb
  ·obtain rfl:i=l.length:=by omega
   have c1:¬(l.length:Int)<l.length:=by omega
   have hf:l.findIdx? (a43 p)=none:=by rw[List.findIdx?_eq_none_iff];intro q hq;obtain⟨j,hj,rfl⟩:=List.getElem_of_mem hq;exact hno j l[j] hj (z9e hj)
   (repeat first|simp only[ww]|(apply xa;simp+decide only[go_sem,c1];rfl;kernel_rfl))
   refine a32 (vs:=[.int .i64 (-1)]) (r:=(_,_)) (by simp+decide only[go_sem]) (by simp+decide only[go_sem,a0j,b14,hp1]<;>rfl) ?_;rw[hf];rfl
theorem d0z(p:Cb):sem L.env Mf 36 [.nilslice,.func (.func 37) [] [.ptr 0 0 0]] [some (.row 2 [p.cells])]=some (.int .i64 (-1),[some (.row 2 [p.cells])]):=by
 have hp:=a2y p;have hp0:=a05 hp;have hp1:=λπ=>a02 π hp;generalize hPC:p.cells=PC at *
 (refine sv Tryz.f36 ?_;simp only[Tryz.f36,gS])
 (repeat first|simp only[ww]|(apply xa;simp+decide only[go_sem];rfl;kernel_rfl))
 refine a0t kp36_0 (λq F H1=>F=[(0,.nilslice),(1,.func (.func 37) [] [.ptr 0 0 0]),(7,.int .i64 0),(8,.int .i64 0)]∧H1=[some (.row 2 [PC])]) 0 ?_ ?_
 ·refine⟨_,_,?_,rfl,rfl⟩
  (simp+decide only[go_sem,a03,a00,hp0,hp1]<;>rfl)<;>rfl
 ·rintro q F H1 ⟨rfl,rfl⟩
  (repeat first|simp only[ww]|(apply xa;simp+decide only[go_sem];rfl;kernel_rfl))
  (apply fqb;simp+decide only[go_sem,hp1]<;>rfl)
structure Cb.sh(n m:Nat)(p:Cb):Prop where
 ok:p.ok
 ins:p.ins.length=n
 sts:p.sts.length=m
theorem Cb.sh.two{n m:Nat}{p q:Cb}(h:p.sh n m)(k:q.sh n m):Shp p q:=⟨h.ok,k.ok,by rw[h.ins,k.ins],by rw[h.sts,k.sts]⟩
theorem d5d{n m:Nat}{p:Cb}(h:p.sh n m):(a5f p).sh n m:=⟨h.ok,h.ins,h.sts⟩
theorem c13{n m:Nat}{p q:Cb}(h:p.sh n m)(k:q.sh n m):(a3h p q).sh n m:=by
 have hi:=h.ins;have hs:=h.sts;have ki:=k.ins;have ks:=k.sts;have ho:=h.ok.1;refine⟨⟨by simp[a3h];omega,λv hv=>?_⟩,by simp[a3h];omega,by simp[a3h];omega⟩;have hp:=h.ok.2;unfold Cb.all a3h at hv;simp only[List.mem_append]at hv;rcases hv with hv|hv
 ·obtain⟨i,hi,rfl⟩:=List.getElem_of_mem hv;rw[List.getElem_zipWith];have:p.ins[i]'(by simp at hi;omega)≤2:=hp _ (by unfold Cb.all;simp);omega
 ·obtain⟨i,hi,rfl⟩:=List.getElem_of_mem hv;rw[List.getElem_zipWith];have:p.sts[i]'(by simp at hi;omega)≤2:=hp _ (by unfold Cb.all;simp);omega
def a9x(s:List Cb×List (List Nat))(i:Nat)(p:Cb):List Cb×List (List Nat):=match s.1.findIdx? (a43 p)with
 |none=>(s.1++[a5f p],s.2++[[i]])
 |some k=>(s.1.set k (a3h (s.1.getD k p) p),s.2.set k (s.2.getD k []++[i]))
def a50(ps:List Cb):Nat→List Cb×List (List Nat)
 |0=>([],[])
 |i+1=>match ps[i]? with
  |some p=>a9x (a50 ps i) i p
  |none=>a50 ps i
theorem a8n{ps:List Cb}{i:Nat}{p:Cb}(h:ps[i]?=some p):a50 ps (i+1)=a9x (a50 ps i) i p:=by simp only[a50,h]
structure MInv(n m i:Nat)(s:List Cb×List (List Nat)):Prop where
 len:s.1.length=s.2.length
 le:s.1.length≤i
 sh:∀q∈s.1,q.sh n m
 ne:∀g∈s.2,g≠[]∧g.length≤i
theorem MInv.step{n m i:Nat}{s:List Cb×List (List Nat)}{p:Cb}(h:MInv n m i s)(hp:p.sh n m):MInv n m (i+1) (a9x s i p):=by
 unfold a9x;split
 ·refine⟨by simp[h.len],by simp;exact h.le,λq hq=>?_,λg hg=>?_⟩
  ·rcases List.mem_append.1 hq with hq|hq
   ·exact h.sh q hq
   ·simp at hq;subst hq;exact d5d hp
  ·rcases List.mem_append.1 hg with hg|hg
   ·have:=h.ne g hg;exact⟨this.1,by omega⟩
   ·simp at hg;subst hg;exact⟨by simp,by simp⟩
 ·rename_i k hk;have hkl:=(List.findIdx?_eq_some_iff_getElem.1 hk).1;refine⟨by simp[h.len],by simp;have:=h.le;omega,λq hq=>?_,λg hg=>?_⟩
  ·rcases List.mem_or_eq_of_mem_set hq with hq|rfl
   ·exact h.sh q hq
   ·refine c13 ?_ hp;rw[List.getD_eq_getElem?_getD,z9e hkl];exact h.sh _ (List.getElem_mem hkl)
  ·rcases List.mem_or_eq_of_mem_set hg with hg|rfl
   ·have:=h.ne g hg;exact⟨this.1,by omega⟩
   ·refine⟨by simp,?_⟩;have hk2:k<s.2.length:=by rw[←h.len];exact hkl
    rw[List.getD_eq_getElem?_getD,z9e hk2];have:=(h.ne _ (List.getElem_mem hk2)).2;simp;omega
theorem b1h{n m:Nat}{ps:List Cb}(h:∀p∈ps,p.sh n m):∀i,MInv n m i (a50 ps i)
 |0=>⟨rfl,Nat.le_refl _,λq hq=>by simp[a50]at hq,λg hg=>by simp[a50]at hg⟩
 |i+1=>by
  have ih:=b1h h i;simp only[a50];cases hp:ps[i]? with
  |none=>show MInv n m (i+1) (a50 ps i);exact⟨ih.len,by have:=ih.le;omega,ih.sh,λg hg=>⟨(ih.ne g hg).1,by have:=(ih.ne g hg).2;omega⟩⟩
  |some p=>exact ih.step (h p (List.mem_of_getElem? hp))
def foG(gs:List (List Nat)):List (List (List AV)):=gs.map (·.map a12)
def cpG(gs:List (List Nat))(j:Nat):Option Nat:=match gs[j]? with|some [_]=>some 1|_=>none
inductive GS(outs:List Cb)(gs:List (List Nat)):a04→AV→AV→Prop
 |nil (h1:outs=[]) (h2:gs=[]):GS outs gs [] .nilslice .nilslice
 |some (H:a04) (w b:Nat) (ids:Nat→Nat) (h1:outs≠[]) (h:Gw H w b ids (cpG gs) (outs.map Cb.cells) (foG gs)):GS outs gs H (.slice w 0 outs.length none) (.slice b 0 gs.length none)
theorem c7g{H:a04}{w:Nat}(p:Cb)(l:List Cb)(h:∀q∈l,Shp p q)(hl:l.length≤1000)(hw:a01 H w=some (.row 2 (l.map Cb.cells))) :
 a0d L.env false (sem L.env Mf) (.func (.func 36) [] []) [.slice w 0 l.length none,.func (.func 37) [] [.ptr H.length 0 0]] (H++[some (.row 2 [p.cells])]) =
 some (.int .i64 (d95 (l.findIdx? (a43 p))),H++[some (.row 2 [p.cells])],[w,H.length]):=by
 have hwl:=a0l hw;have h1:a01 (H++[some (.row 2 [p.cells])]) w=some (.row 2 (l.map Cb.cells)):=by rw[a0x (eq_true hwl)];exact hw
 have h2:a01 (H++[some (.row 2 [p.cells])]) H.length=some (.row 2 [p.cells]):=a1r;have hc:=b9t (E:=L.env) (draw:=false) (call:=sem L.env Mf) (g:=36) (fs:=[]) (cs:=[]) (ar:=[.slice w 0 l.length none,.func (.func 37) [] [.ptr H.length 0 0]]) (by kernel_rfl) (by kernel_rfl) rfl (a:=w) (b:=H.length) (by omega) h1 h2 (a0m (b73 l)) (a0m (a2y p)) (FlatO.row (b73 l)) (FlatO.row (a2y p)) rfl
  (args':=[.slice 0 0 l.length none,.func (.func 37) [] [.ptr 1 0 0]]) (by
   have hne:¬w=H.length:=by omega
   simp[ren,b6h,a3w,List.idxOf?_cons,hne]) (d6a p l h hl) (FlatO.row (b73 l)) (FlatO.row (a2y p)) (v':=.int .i64 (d95 (l.findIdx? (a43 p)))) rfl
 rw[a54 h1,a54 h2]at hc;exact hc
theorem d14(gs:List (List Nat)):(foG gs).length=gs.length:=by simp[foG]
theorem b96{H:a04}{w b:Nat}{ids:Nat→Nat}{cp cp':Nat→Option Nat}{ws:List (List AV)}{fo:List (List (List AV))}(h:Gw H w b ids cp ws fo)(he:∀j,j<fo.length→cp j=cp' j):Gw H w b ids cp' ws fo:=by
 refine⟨h.out,h.flat,⟨?_,h.two.sub,h.two.inj,h.two.flat⟩,h.wb,h.wi⟩;rw[h.two.top]
 congr 2
 unfold a25;apply List.ext_getElem?;intro j;rw[List.getElem?_mapIdx,List.getElem?_mapIdx];cases hf:fo[j]? with
 |none=>rfl
 |some f=>simp only[Option.map_some,he j (List.getElem?_eq_some_iff.1 hf).1]
theorem hS2{H L:a04}{a a':Nat}{o o':Option AObj}(i:Nat):a01 ((H.set a o).set a' o'++L) (H.length+i)=a01 L i:=by
 have:=a1w (H:=H.set a o) (L:=L) (a:=a') (o:=o') i
 rwa [List.length_set]at this
theorem hS3{H L:a04}{a a' a2:Nat}{o o' o2:Option AObj}(i:Nat):a01 (((H.set a o).set a' o').set a2 o2++L) (H.length+i)=a01 L i:=by
 have:=hS2 (H:=H.set a o) (L:=L) (a:=a') (o:=o') (a':=a2) (o':=o2) i
 rwa [List.length_set]at this
theorem lS2{H L:a04}{a a' c:Nat}{o o':Option AObj}(hc:c<H.length)(h1:c≠a)(h2:c≠a'):a01 ((H.set a o).set a' o'++L) c=a01 H c:=by rw[a0x (eq_true (by simpa using hc)),a0q (Ne.symm h2),a0q (Ne.symm h1)]
theorem c84{gs:List (List Nat)}{i:Nat}(j:Nat)(hj:j<(foG gs).length+1):(if j=(foG gs).length then some 1 else cpG gs j)=cpG (gs++[[i]]) j:=by
 rw[d14]at hj⊢;unfold cpG;by_cases h:j=gs.length
 ·subst h;rw[if_pos rfl,List.getElem?_append_right (Nat.le_refl _),Nat.sub_self];rfl
 ·rw[if_neg h,List.getElem?_append_left (by omega)]
theorem a33(gs:List (List Nat)):(foG gs).length=gs.length:=by simp[foG]
theorem b3b{gs:List (List Nat)}{j:Nat}{g:List Nat}(h:gs[j]?=some g):(foG gs)[j]?=some (g.map a12):=by unfold foG;rw[List.getElem?_map,h];rfl
theorem c8d(a b:List Nat)(i:Nat):b45 d1a a b i=b45 d1a b a i:=by
 unfold b45
 induction a generalizing b i with
 |nil=>cases b<;>simp
 |cons x a ih=>
  cases b with
  |nil=>simp
  |cons y b=>
   cases i with
   |zero=>simp
   |succ i=>
    simp only[List.zip_cons_cons,List.take_succ_cons,List.countP_cons,ih b i]
    congr 1
    unfold d1a;rw[Nat.add_comm]
theorem a93{p q:Cb}(h:Shp p q):a43 p q=a43 q p:=by unfold a43 Cb.n;rw[c8d,h.ins,h.sts]
theorem a7m{m:Nat}{keep:List Nat}{F F':Frm}{H:a04}(h:a1l keep F=a1l keep F'):gcD m keep F H=gcD m keep F' H:=by unfold gcD;rw[h]
def e0e:List Cb→AV|[]=>.nilslice|a::r=>.islice ((a::r).map Cb.cells) (some (r.length+1))
def e0f:List (List Nat)→AV|[]=>.nilslice|a::r=>.islice ((a::r).map λg=>[lsV g]) (some (r.length+1))
def cpC(gs:List (List Nat))(j i:Nat):Option Nat:=if i<j then(gs[i]?).map List.length else cpG gs i
theorem c8g:sem L.env Mf 41 [.nilslice] []=some (.nilslice,[]):=by
 (refine sv Tryz.f41 ?_;simp only[Tryz.f41,gS])
 (repeat first|simp only[ww]|(apply xa;simp+decide only[go_sem];rfl;kernel_rfl))
 (apply fqb;simp+decide only[go_sem]<;>rfl)
theorem c8h:sem L.env Mf 42 [.nilslice] []=some (.nilslice,[]):=by
 (refine sv Tryz.f42 ?_;simp only[Tryz.f42,gS])
 (repeat first|simp only[ww]|(apply xa;simp+decide only[go_sem];rfl;kernel_rfl))
 (apply fqb;simp+decide only[go_sem]<;>rfl)
theorem d1v(n:Nat)(rows:List (List AV))(hf:FlatR rows):sem L.env Mf 41 [.slice 0 0 n none] [some (.row 2 rows)]=some (.slice 0 0 n (some n),[some (.row 2 rows)]):=by
 have h1:=λπ=>a02 π hf
 (refine sv Tryz.f41 ?_;simp only[Tryz.f41,gS])
 (repeat first|simp only[ww]|(apply xa;simp+decide only[go_sem];rfl;kernel_rfl))
 (apply fqb;simp+decide only[go_sem,h1]<;>rfl)
theorem c4w{d:Bool}{H:a04}{b n:Nat}{rows:List (List AV)}(hf:FlatR rows)(hb:a01 H b=some (.row 2 rows)):a0d L.env d (sem L.env Mf) (.func (.func 41) [] []) [.slice b 0 n none] H=some (.slice b 0 n (some n),H,[b]):=by have h:=a2z (E:=L.env) (draw:=d) (call:=sem L.env Mf) (g:=41) (fs:=[]) (cs:=[]) (ar:=[.slice b 0 n none]) (H:=H) (b:=b) (by kernel_rfl) (by kernel_rfl) rfl hb (a0m hf) (FlatO.row hf) rfl (args':=[AV.slice 0 0 n none]) (by simp only[List.nil_append,List.append_nil,List.map_cons,List.map_nil,a27]) (d1v n rows hf) (FlatO.row hf) (a85 b 0 _ n _);rw[a54 hb]at h;exact h
theorem c8f(n:Nat)(rows:List (List AV))(hf:FlatR rows):sem L.env Mf 35 [.slice 0 0 n (some n)] [some (.row 1 rows)]=some (.slice 0 0 n (some n),[some (.row 1 rows)]):=by
 have h1:=λπ=>a02 π hf
 (refine sv Tryz.f35 ?_;simp only[Tryz.f35,gS])
 (repeat first|simp only[ww]|(apply xa;simp+decide only[go_sem];rfl;kernel_rfl))
 (apply fqb;simp+decide only[go_sem,h1]<;>rfl)
theorem c4x{d:Bool}{H:a04}{b n:Nat}{c:Option Nat}{rows:List (List AV)}(hc:c=none∨c=some n)(hf:FlatR rows)(hb:a01 H b=some (.row 1 rows)):a0d L.env d (sem L.env Mf) (.func (.func 35) [] []) [.slice b 0 n c] H=some (.slice b 0 n (some n),H,[b]):=by
 rcases hc with rfl|rfl
 ·exact a5r hf hb
 ·have h:=a2z (E:=L.env) (draw:=d) (call:=sem L.env Mf) (g:=35) (fs:=[]) (cs:=[]) (ar:=[.slice b 0 n (some n)]) (H:=H) (b:=b) (by kernel_rfl) (by kernel_rfl) rfl hb (a0m hf) (FlatO.row hf) rfl (args':=[AV.slice 0 0 n (some n)]) (by simp only[List.nil_append,List.append_nil,List.map_cons,List.map_nil,a27]) (c8f n rows hf) (FlatO.row hf) (a85 b 0 _ n _);rw[a54 hb]at h;exact h
theorem d6q{v:AV}{H:a04}(hv:∀d,a23 H.length true d v=some v)(hlow:∀x,∀y∈a0k (a01 H x),y<H.length):a0j false H.length v H=some (v,H):=by
 simp only[a0j,cond_false,hv]
 congr 2
 rw[List.take_length];apply List.ext_getElem (by simp);intro b h1 h2;simp only[List.getElem_map];cases ho:H[b]with
 |none=>rfl
 |some o=>
  have hob:a01 H b=some o:=by unfold a01;rw[z9e h2,ho];rfl
  simp only[Option.map_some];rw[a7h (m:=H.length) (λc hc=>by unfold a13;rw[c1t,decide_eq_true hc];rfl) o (λc hc=>hlow b c (by rw[hob];exact hc))]
theorem d1w(n:Nat)(H0:a04)(b':Nat)(R:List (List AV))(hR:a01 H0 b'=some (.row 1 R))(hlow:∀x,∀y∈a0k (a01 H0 x),y<H0.length):sem L.env Mf 42 [.slice b' 0 n none] H0=some (.slice b' 0 n (some n),H0):=by
 have hb:=a0l hR;have hf:=d6q (v:=.slice b' 0 n (some n)) (H:=H0) (λd=>by simp only[a8w,decide_eq_true hb,cond_true]) hlow
 suffices hs:∃r:AV×a04,(r=(.slice b' 0 n (some n),H0))∧sem L.env Mf 42 [.slice b' 0 n none] H0=some r by obtain⟨r,rfl,h3⟩:=hs;exact h3
 (refine svE Tryz.f42 ?_;simp only[Tryz.f42,gS])
 (repeat first|simp only[ww]|(apply xa;simp+decide only[go_sem,hR];rfl;kernel_rfl))
 exact a32 (vs:=[.slice b' 0 n (some n)]) (r:=(_,_)) (by simp+decide only[go_sem]) hf rfl
theorem c6d(c:Option (Option Nat))(ps:List Cb)(n m:Nat)(h:∀p∈ps,p.sh n m)(hl:ps.length≤100):∃r:AV×a04,r=(.tuple [e0e (a50 ps ps.length).1,e0f (a50 ps ps.length).2,.int .i64 0],[])∧sem L.env Mf 11 [sl c (ps.map Cb.cells)] []=some r:=by
 have c0:¬(4096:Int)<ps.length:=by omega
 (refine svE Tryz.f11 ?_;simp only[Tryz.f11,gS])
 (repeat first|simp only[ww]|(apply xa;simp+decide only[go_sem,List.length_map,c0];rfl;kernel_rfl))
 refine a0t kp11_0 (λq F H1=>∃i:Nat,q=ps.length-i∧i≤ps.length∧F=[(0,sl c (ps.map Cb.cells)),(19,sl c (ps.map Cb.cells)),(20,.int .i64 ps.length),(21,.int .i64 i)]∧H1=[]) ps.length ?_ ?_
 ·refine⟨_,_,?_,0,rfl,Nat.zero_le _,rfl,rfl⟩
  (simp+decide only[go_sem,a03,a00]<;>rfl)<;>rfl
 ·rintro q F H1 ⟨i,rfl,hi,rfl,rfl⟩
  by_cases hlt:i<ps.length
  ·obtain⟨p,hp⟩:∃p,ps[i]?=some p:=⟨_,z9e hlt⟩
   obtain⟨p0,hp0⟩:∃p,ps[0]?=some p:=⟨_,z9e (by omega)⟩
   have hs:=h p (List.mem_of_getElem? hp);have hs0:=h p0 (List.mem_of_getElem? hp0);have hck:∀H,a0d L.env false (sem L.env Mf) (.func (.func 21) [] []) [.agg [sl p.ci (p.ins.map u8R),sl p.cs (p.sts.map u8R)]] H=some (.int .i64 0,H,[]):=λH=>a7p H p hs.ok;have hg:(ps.map Cb.cells)[i]?=some [sl p.ci (p.ins.map u8R),sl p.cs (p.sts.map u8R)]:=by rw[List.getElem?_map,hp];rfl
   have hg0:(ps.map Cb.cells)[0]?=some [sl p0.ci (p0.ins.map u8R),sl p0.cs (p0.sts.map u8R)]:=by rw[List.getElem?_map,hp0];rfl
   have hr0:Ax.rowAt (ps.map Cb.cells) 0=some [sl p0.ci (p0.ins.map u8R),sl p0.cs (p0.sts.map u8R)]:=by unfold Ax.rowAt;simpa using hg0
   have e1:((p.ins.length:Int)=p0.ins.length)=True:=eq_true (by rw[hs.ins,hs0.ins]);have e2:((p.sts.length:Int)=p0.sts.length)=True:=eq_true (by rw[hs.sts,hs0.sts]);have c1:(i:Int)<ps.length:=by omega
   have hw:=wI1 (n:=i) (by omega);have hpos:0<ps.length:=by omega
   (repeat first|simp only[ww]|(apply xa;simp+decide only[go_sem,c1,hlt,hg,hck,List.length_map];rfl;kernel_rfl))
   (repeat first|simp only[ww]|((with_reducible first|apply xs2|apply xI);(·simp+decide only[go_sem,hr0,hpos,e1,e2,hw,List.length_map];rfl);with_reducible first|apply xT|apply xF|(·kernel_rfl)))
   refine a0b (ps.length-(i+1)) (by omega) ⟨_,_,?_,i+1,rfl,hlt,rfl,rfl⟩
   (simp+decide only[go_sem,a03,a00]<;>rfl)<;>rfl
  ·obtain rfl:i=ps.length:=by omega
   have c1:¬(ps.length:Int)<ps.length:=by omega
   have hinv:=λi=>b1h h i
   (repeat first|simp only[ww]|(apply xa;simp+decide only[go_sem,c1,List.length_map];rfl;kernel_rfl))
   refine a0t kp11_2 (λq F H1=>∃(i:Nat) (V1 V2:AV),q=ps.length-i∧i≤ps.length∧F=[(8,V1),(9,V2),(51,sl c (ps.map Cb.cells)),(52,.int .i64 ps.length),(53,.int .i64 i)]∧GS (a50 ps i).1 (a50 ps i).2 H1 V1 V2) ps.length ?_ ?_
   ·refine⟨_,_,?_,0,.nilslice,.nilslice,rfl,Nat.zero_le _,rfl,.nil rfl rfl⟩
    (simp+decide only[go_sem,a03,a00]<;>rfl)<;>rfl
   ·rintro q F H1 ⟨i,V1,V2,rfl,hi,rfl,hGS⟩
    by_cases hlt:i<ps.length
    ·obtain⟨p,hp⟩:∃p,ps[i]?=some p:=⟨_,z9e hlt⟩
     have hs:=h p (List.mem_of_getElem? hp);have hI:=hinv i;have hms:=a8n hp;have hg:(ps.map Cb.cells)[i]?=some [sl p.ci (p.ins.map u8R),sl p.cs (p.sts.map u8R)]:=by rw[List.getElem?_map,hp];rfl
     have hrx:∀H,a0d L.env false (sem L.env Mf) (.func (.func 39) [] []) [.agg [sl p.ci (p.ins.map u8R),sl p.cs (p.sts.map u8R)],.nilslice] H=some (.tuple [.agg [sl (a5f p).ci ((a5f p).ins.map u8R),sl (a5f p).cs ((a5f p).sts.map u8R)],.int .i64 0],H,[]):=λH=>c46 H p hs.ok;have c1:(i:Int)<ps.length:=by omega
     have hw:=wI1 (n:=i) (by omega);have hPC:p.cells=[sl p.ci (p.ins.map u8R),sl p.cs (p.sts.map u8R)]:=rfl;generalize hst:a50 ps i=st at *;obtain⟨outs,gs⟩:=st;dsimp only at hGS hI;have hIl:=hI.len;have hIle:=hI.le;dsimp only at hIl hIle;cases hGS with
     |nil h1 h2=>
      subst h1 h2;have hn0:a9x ([],[]) i p=([a5f p],[[i]]):=rfl;have hix:a0d L.env false (sem L.env Mf) (.func (.func 36) [] []) [.nilslice,.func (.func 37) [] [.ptr 0 0 0]] [some (.row 2 [[sl p.ci (p.ins.map u8R),sl p.cs (p.sts.map u8R)]])]=some (.int .i64 (-1),[some (.row 2 [[sl p.ci (p.ins.map u8R),sl p.cs (p.sts.map u8R)]])],[0]):=a1b (b:=0) (by kernel_rfl) (by kernel_rfl) rfl rfl (a0m (a2y p)) (FlatO.row (a2y p)) rfl (args':=[.nilslice,.func (.func 37) [] [.ptr 0 0 0]]) rfl (d0z p) rfl
      (repeat first|simp only[ww]|(apply xa;simp+decide only[go_sem,c1,hlt,hg,hix,hrx,hw,List.length_map];rfl;kernel_rfl))
      have hG:=Gw.first (H1:=[some (.row 2 [[sl p.ci (p.ins.map u8R),sl p.cs (p.sts.map u8R)]]),some (.row 2 [(a5f p).cells]),some (.row 2 [(a5f p).cells]),some (.row 2 [(a5f p).cells]),some (.row 1 [[.int .i64 i]]),some (.row 1 [[.slice 4 0 1 (some 1)]]),some (.row 1 [[.slice 4 0 1 (some 1)]])])
       (w':=3) (b':=6) (x':=4) (x:=(a5f p).cells) (z:=a12 i) (q:=some 1) (by simpa[a0a,refs,Cb.enc]using a1g (a5f p)) rfl rfl rfl rfl (by omega) (by omega) (by omega)
      refine a0b (ps.length-(i+1)) (by omega) ?_;refine hG.head ?_ ?_ ?_ ?_ (by simp) ?_
      ·intro x hx;simp+decide only[go_sem]at hx;simpa using hx
      ·simp+decide only[go_sem]<;>simp
      ·simp+decide only[go_sem]<;>simp
      ·simp+decide only[go_sem]<;>simp
      ·intro π w' b' ids' H1 hw' hb' hG';refine⟨i+1,.slice w' 0 1 none,.slice b' 0 1 none,rfl,hlt,?_,?_⟩
       ·simp+decide only[go_sem,hw',hb']<;>rfl
       ·rw[hms,hn0];exact .some H1 w' b' ids' (by simp) (b96 hG' (λj hj=>by
         have:j=0:=by simpa[foG]using hj
         subst this;rfl))
     |some _ w b ids h1 hG=>
      have hop:0<outs.length:=List.length_pos_iff.2 h1;have hix:=c7g p outs (λq hq=>hs.two (hI.sh q hq)) (by omega) hG.out;rw[hPC]at hix;have hwl:=a0l hG.out;have hbl:=a0l hG.two.top;have hwo:=hG.out;have hbo:=hG.two.top;have hwb:=eq_false hG.wb;have hbw:=eq_false (Ne.symm hG.wb);have hrl:(a25 ids (cpG gs) (foG gs)).length=gs.length:=by rw[a3l,a33]
      cases hfi:outs.findIdx? (a43 p)with
      |none=>
       rw[hfi]at hix;have hn0:a9x (outs,gs) i p=(outs++[a5f p],gs++[[i]]):=by unfold a9x;simp only[hfi]
       have hm1:d95 none = -1:=rfl;rw[hm1]at hix;have r1:outs.length+1≤1000000000:=by omega
       have r2:gs.length+1≤1000000000:=by omega
       (repeat first|simp only[ww]|(apply xa;simp+decide only[go_sem,c1,hlt,hg,hix,hrx,hw,hwl,hbl,hwo,hbo,hwb,hbw,hrl,r1,r2,a4p,List.length_set,List.length_map,a1w,a1r,a1s,a0x,a41,a56,a55,a3n,a2m,List.append_assoc,List.cons_append,List.nil_append];rfl;kernel_rfl))
       refine a0b (ps.length-(i+1)) (by omega) ?_;refine(hG.new (w':=H1.length+3) (b':=H1.length+6) (x':=H1.length+4) (x:=(a5f p).cells) (z:=a12 i) (q:=some 1) (by simpa[a0a,refs,Cb.enc]using a1g (a5f p)) rfl (by rw[hS2];rfl) (by rw[hS2];rfl) (by rw[hS2];rfl) (λc hc h2 h3=>lS2 hc h2 h3) (by omega) (by omega) (by omega) (by omega) (by omega) (by omega)).head ?_ ?_ ?_ ?_ (by rw[List.length_append,a33];simp;omega) ?_
       ·intro x hx;simp+decide only[go_sem]at hx;simpa using hx
       ·simp+decide only[go_sem]<;>simp
       ·simp+decide only[go_sem]<;>simp
       ·simp+decide only[go_sem]<;>simp
       ·intro π w' b' ids' H2 hw' hb' hG';refine⟨i+1,.slice w' 0 (outs.length+1) none,.slice b' 0 (gs.length+1) none,rfl,hlt,?_,?_⟩
        ·simp+decide only[go_sem,hw',hb']<;>rfl
        ·rw[hms,hn0];have e1:outs.map Cb.cells++[(a5f p).cells]=(outs++[a5f p]).map Cb.cells:=by rw[List.map_append];rfl
         have e2:foG gs++[[a12 i]]=foG (gs++[[i]]):=by unfold foG;rw[List.map_append];rfl
         rw[e1,e2]at hG';have hfin:=GS.some (outs:=outs++[a5f p]) (gs:=gs++[[i]]) H2 w' b' ids' (by simp) (b96 hG' (λj hj=>c84 j (by rw[a33]at hj⊢;simpa using hj)));simpa using hfin
      |some k=>
       rw[hfi]at hix;obtain⟨hkl,hkc,_⟩:=List.findIdx?_eq_some_iff_getElem.1 hfi;obtain⟨q,hq⟩:∃q,outs[k]?=some q:=⟨_,z9e hkl⟩
       have hqe:outs[k]=q:=(List.getElem?_eq_some_iff.1 hq).2;rw[hqe]at hkc;obtain⟨g,hgk⟩:∃g,gs[k]?=some g:=⟨_,z9e (by omega)⟩
       have hqs:=hI.sh q (List.mem_of_getElem? hq);have hgne:=(hI.ne g (List.mem_of_getElem? hgk)).1;have hgle:=(hI.ne g (List.mem_of_getElem? hgk)).2;have hn0:a9x (outs,gs) i p=(outs.set k (a3h q p),gs.set k (g++[i])):=by unfold a9x;simp only[hfi];rw[List.getD_eq_getElem?_getD,hq,List.getD_eq_getElem?_getD,hgk];rfl
       have hm1:d95 (some k)=(k:Int):=rfl;rw[hm1]at hix;have hk0:¬(k:Int)<0:=by omega
       have hqg:(outs.map Cb.cells)[k]?=some [sl q.ci (q.ins.map u8R),sl q.cs (q.sts.map u8R)]:=by rw[List.getElem?_map,hq];rfl
       have hmr:∀H,a0d L.env true (sem L.env Mf) (.func (.func 40) [] []) [.agg [sl q.ci (q.ins.map u8R),sl q.cs (q.sts.map u8R)],.agg [sl p.ci (p.ins.map u8R),sl p.cs (p.sts.map u8R)]] H =
        some (.tuple [.agg [sl (a3h q p).ci ((a3h q p).ins.map u8R),sl (a3h q p).cs ((a3h q p).sts.map u8R)],.int .i64 0],H,[]):=λH=>c2q H q p (hqs.two hs) (by rw[a93 (hqs.two hs)];exact hkc)
       (repeat first|simp only[ww]|(apply xa;simp+decide only[go_sem,c1,hlt,hg,hix,hk0,hwl,hbl,hwo,hbo,hwb,hbw,hrl,List.length_set,List.length_map,a1w,a1r,a1s,a0x,a41,a56,a55,a3n,a2m,List.append_assoc,List.cons_append,List.nil_append];rfl;kernel_rfl))
       (repeat first|simp only[ww]|((with_reducible first|apply xs3|apply xI);(·simp+decide only[go_sem,hwl,hbl,hwo,hbo,hwb,hbw,hkl,hqg,hmr,List.length_set,List.length_map,a1w,a1r,a1s,a0x,a41,a56,a55,a3n,a2m,List.append_assoc,List.cons_append,List.nil_append];rfl);first|with_reducible apply xT|with_reducible apply xF|(·repeat' (first|exact b1i|exact b1c|refine a8o ?_ ?_|refine b1b (by simp only[List.length_cons,List.length_nil];decide+kernel) ?_|refine b1d (a95 (by simp<;>omega) (by simp<;>omega) (by simp<;>omega)) ?_))))
       have hfoG:=b3b hgk;have hget0:=a8j (ids:=ids) (cp:=cpG gs) hfoG;have hks:k<gs.length:=by omega
       have hgm:g.map a12≠[]:=by simpa using hgne
       obtain⟨s1,s2⟩:=hG.two.sub k _ hfoG hgm;have s3:=a0l s1;have s4:=hG.wi k _ hfoG hgm;have s5:=eq_false s4;have s6:=eq_false (Ne.symm s4);have s7:=eq_false s2;have s8:=eq_false (Ne.symm s2);have hcpn:∀j,j<(foG (gs.set k (g++[i]))).length→(if j=k then none else cpG gs j)=cpG (gs.set k (g++[i])) j:=by
        intro j hj;unfold cpG;rw[List.getElem?_set];by_cases hjk:k=j
        ·subst hjk;simp only[if_true,hks];cases g with
         |nil=>exact absurd rfl hgne
         |cons x t=>cases t<;>rfl
        ·rw[if_neg (Ne.symm hjk),if_neg hjk]
       have hend:∀(H':a04),Gw H' w b (λi'=>if i'=k then H1.length+2 else ids i') (λi'=>if i'=k then none else cpG gs i') ((outs.map Cb.cells).set k (a3h q p).cells) ((foG gs).set k (g.map a12++[a12 i]))→
        ∃F1 H2,gcD 0 [8,9,51,52,53] [(8,AV.slice w 0 outs.length none),(9,.slice b 0 gs.length none),(51,sl c (ps.map Cb.cells)),(52,.int .i64 ps.length),(53,.int .i64 (i+1:Nat))] H'=some (F1,H2)∧
         (∃(i':Nat) (V1 V2:AV),ps.length-(i+1)=ps.length-i'∧i'≤ps.length∧F1=[(8,V1),(9,V2),(51,sl c (ps.map Cb.cells)),(52,.int .i64 ps.length),(53,.int .i64 i')]∧GS (a50 ps i').1 (a50 ps i').2 H2 V1 V2):=by
        intro H' hG';refine hG'.head ?_ ?_ ?_ ?_ (by rw[List.length_set,a33];omega) ?_
        ·intro x hx;simp+decide only[go_sem]at hx;simpa using hx
        ·simp+decide only[go_sem]<;>simp
        ·simp+decide only[go_sem]<;>simp
        ·simp+decide only[go_sem]<;>simp
        ·intro π w' b' ids' H2 hw' hb' hG'';refine⟨i+1,.slice w' 0 outs.length none,.slice b' 0 gs.length none,rfl,hlt,?_,?_⟩
         ·simp+decide only[go_sem,hw',hb']<;>rfl
         ·rw[hms,hn0];have e1:(outs.map Cb.cells).set k (a3h q p).cells=(outs.set k (a3h q p)).map Cb.cells:=by rw[List.map_set]
          have e2:(foG gs).set k (g.map a12++[a12 i])=foG (gs.set k (g++[i])):=by unfold foG;rw[List.map_set,List.map_append];rfl
          rw[e1,e2]at hG'';have hfin:=GS.some (outs:=outs.set k (a3h q p)) (gs:=gs.set k (g++[i])) H2 w' b' ids' (by intro e;exact h1 (by simpa using e)) (b96 hG'' hcpn);simpa using hfin
       have hmc:(a3h q p).cells=[sl (a3h q p).ci ((a3h q p).ins.map u8R),sl (a3h q p).cs ((a3h q p).sts.map u8R)]:=rfl;have hmx:a0a (a3h q p).cells=[]:=by simpa[a0a,refs,Cb.enc]using a1g (a3h q p)
       cases g with
       |nil=>exact absurd rfl hgne
       |cons x t=>
        cases t with
        |nil=>
         have hcpk:cpG gs k=some 1:=by unfold cpG;rw[hgk]
         have hget:(a25 ids (cpG gs) (foG gs))[k]?=some [.slice (ids k) 0 1 (some 1)]:=by rw[hget0,hcpk];rfl
         have s1:a01 H1 (ids k)=some (.row 1 [[.int .i64 x]]):=s1;have r3:¬1+1≤1:=by omega
         (repeat first|simp only[ww]|(apply xa;simp+decide only[go_sem,hks,hget,s1,s3,s5,s6,s7,s8,hw,hwl,hbl,hwo,hbo,hwb,hbw,hrl,r3,a4p,List.length_set,List.length_map,a1w,a1r,a1s,a0x,a41,a56,a55,a3n,a2m,List.append_assoc,List.cons_append,List.nil_append];rfl;kernel_rfl))
         obtain⟨F1,H2,e1,e2⟩:=hend _ (hG.upd (k:=k) (n:=H1.length+2) (f:=[x].map a12) (x:=(a3h q p).cells) (z:=a12 i) (H1:=(H1.set w (some (.row 2 ((outs.map Cb.cells).set k (a3h q p).cells)))).set b (some (.row 1 ((a25 ids (cpG gs) (foG gs)).set k [.slice (H1.length+2) 0 2 none])))++[some (.row 2 [p.cells]),some (.row 1 [[.int .i64 i]]),some (.row 1 [[.int .i64 x],[.int .i64 i]])]) hfoG hmx rfl (by omega)
          (by rw[a0x (eq_true (by simpa using hwl)),a0q (Ne.symm hG.wb),a1o hwl]) (by rw[a0x (eq_true (by simpa using hbl)),a1o (by simpa using hbl)];rfl) (by rw[hS2];rfl) (λc hc h2 h3 _=>lS2 hc h2 h3))
         exact a0b (ps.length-(i+1)) (by omega) ⟨F1,H2,(a7m (by simp+decide only[go_sem]<;>rfl)).trans e1,e2⟩
        |cons y t=>
         have hcpk:cpG gs k=none:=by unfold cpG;rw[hgk]
         have hget:(a25 ids (cpG gs) (foG gs))[k]?=some [.slice (ids k) 0 (t.length+1+1) none]:=by rw[hget0,hcpk];show some [AV.slice (ids k) 0 ((a12 y::t.map a12).length+1) none]=_;simp
         have s1':a01 H1 (ids k)=some (.row 1 ([.int .i64 x]::[.int .i64 y]::t.map a12)):=s1;have r3:t.length+1+1+1≤1000000000:=by simp only[List.length_cons]at hgle;omega
         (repeat first|simp only[ww]|(apply xa;simp+decide only[go_sem,hks,hget,s1',s3,s5,s6,s7,s8,hw,hwl,hbl,hwo,hbo,hwb,hbw,hrl,r3,a4p,List.length_set,List.length_map,List.length_cons,a1w,a1r,a1s,a0x,a41,a56,a55,a3n,a2m,List.append_assoc,List.cons_append,List.nil_append];rfl;kernel_rfl))
         obtain⟨F1,H2,e1,e2⟩:=hend _ (hG.upd (k:=k) (n:=H1.length+2) (f:=(x::y::t).map a12) (x:=(a3h q p).cells) (z:=a12 i) (H1:=((H1.set w (some (.row 2 ((outs.map Cb.cells).set k (a3h q p).cells)))).set (ids k) none).set b (some (.row 1 ((a25 ids (cpG gs) (foG gs)).set k [.slice (H1.length+2) 0 (t.length+1+1+1) none])))++[some (.row 2 [p.cells]),some (.row 1 [[.int .i64 i]]),some (.row 1 ([.int .i64 x]::[.int .i64 y]::(t.map a12++[[.int .i64 i]])))]) hfoG hmx rfl (by omega)
          (by rw[a0x (eq_true (by simpa using hwl)),a0q (Ne.symm hG.wb),a0q s4,a1o hwl]) (by rw[a0x (eq_true (by simpa using hbl)),a1o (by simpa using hbl)];simp) (by rw[hS3];rfl) (λc hc h2 h3 h5=>by rw[a0x (eq_true (by simpa using hc)),a0q (Ne.symm h3),a0q (Ne.symm (h5 (by simp))),a0q (Ne.symm h2)]))
         exact a0b (ps.length-(i+1)) (by omega) ⟨F1,H2,(a7m (by simp+decide only[go_sem]<;>rfl)).trans e1,e2⟩
    ·obtain rfl:i=ps.length:=by omega
     have c1:¬(ps.length:Int)<ps.length:=by omega
     have hI:=hinv ps.length;generalize hst:a50 ps ps.length=st at *;obtain⟨outs,gs⟩:=st;dsimp only at hGS hI;have hIl:=hI.len;have hIle:=hI.le;dsimp only at hIl hIle;cases hGS with
     |nil h1 h2=>
      subst h1 h2;have k1:=λH=>a07 (E:=L.env) (draw:=false) (call:=sem L.env Mf) (g:=41) (fs:=[]) (cs:=[]) (ar:=[.nilslice]) (H:=H) (by kernel_rfl) (by kernel_rfl) rfl rfl c8g rfl;have k2:=λH=>a07 (E:=L.env) (draw:=false) (call:=sem L.env Mf) (g:=42) (fs:=[]) (cs:=[]) (ar:=[.nilslice]) (H:=H) (by kernel_rfl) (by kernel_rfl) rfl rfl c8h rfl
      (repeat first|simp only[ww]|(apply xa;simp+decide only[go_sem,c1];rfl;kernel_rfl))
      refine a0t kp11_4 (λq F H1=>F=[(8,.nilslice),(9,.nilslice),(101,.int .i64 0),(102,.int .i64 0)]∧H1=[]) 0 ?_ ?_
      ·refine⟨_,_,?_,rfl,rfl⟩
       (simp+decide only[go_sem,a03,a00]<;>rfl)<;>rfl
      ·rintro q F H1 ⟨rfl,rfl⟩
       (repeat first|simp only[ww]|(apply xa;simp+decide only[go_sem,k1,k2];rfl;kernel_rfl))
       refine a3q (vs:=[.nilslice,.nilslice,.int .i64 0]) (r:=(_,_)) (by simp+decide only[go_sem]) (by simp+decide only[go_sem,a0j]<;>rfl) rfl
     |some _ w b ids h1 hG=>
      (repeat first|simp only[ww]|(apply xa;simp+decide only[go_sem,c1];rfl;kernel_rfl))
      refine a0t kp11_4 (λq F H1=>∃(j w b:Nat) (ids:Nat→Nat),q=gs.length-j∧j≤gs.length∧F=[(8,.slice w 0 outs.length none),(9,.slice b 0 gs.length none),(101,.int .i64 gs.length),(102,.int .i64 j)]∧Gw H1 w b ids (cpC gs j) (outs.map Cb.cells) (foG gs)) gs.length ?_ ?_
      ·refine hG.head ?_ ?_ ?_ ?_ (by rw[a33];omega) ?_
       ·intro x hx;simp+decide only[go_sem]at hx;simpa using hx
       ·simp+decide only[go_sem]<;>simp
       ·simp+decide only[go_sem]<;>simp
       ·simp+decide only[go_sem]<;>simp
       ·intro π w' b' ids' H2 hw' hb' hG';refine⟨0,w',b',ids',rfl,Nat.zero_le _,?_,b96 hG' (λj _=>by simp[cpC])⟩;simp+decide only[go_sem,hw',hb']<;>rfl
      ·rintro q F H1 ⟨j,w,b,ids,rfl,hj,rfl,hG⟩
       have hwl:=a0l hG.out;have hbl:=a0l hG.two.top;have hbo:=hG.two.top;have hrl:(a25 ids (cpC gs j) (foG gs)).length=gs.length:=by rw[a3l,a33]
       by_cases hjl:j<gs.length
       ·obtain⟨g,hgj⟩:∃g,gs[j]?=some g:=⟨_,z9e hjl⟩
        have hgne:=(hI.ne g (List.mem_of_getElem? hgj)).1;have hfoG:=b3b hgj;have hgm:g.map a12≠[]:=by simpa using hgne
        obtain⟨s1,s2⟩:=hG.two.sub j _ hfoG hgm;have hget:(a25 ids (cpC gs j) (foG gs))[j]?=some [.slice (ids j) 0 g.length (cpG gs j)]:=by rw[a8j hfoG,d3f _ _ hgm,List.length_map];simp[cpC]
        have hcl:=c4x (d:=false) (H:=H1) (b:=ids j) (n:=g.length) (c:=cpG gs j) (by
         unfold cpG;rw[hgj];cases g with
         |nil=>exact absurd rfl hgne
         |cons x t=>cases t with
          |nil=>exact .inr rfl
          |cons y t=>exact .inl rfl) (a7r g) s1
        have d1:(j:Int)<gs.length:=by omega
        have hw:=wI1 (n:=j) (by omega)
        (repeat first|simp only[ww]|(apply xa;simp+decide only[go_sem,d1,hjl,hget,hcl,hbo,hbl,hrl,hw];rfl;kernel_rfl))
        refine a0b (gs.length-(j+1)) (by omega) ?_;refine(hG.clip (j:=j) (c:=g.length) (H1:=H1.set b (some (.row 1 ((a25 ids (cpC gs j) (foG gs)).set j [.slice (ids j) 0 g.length (some g.length)])))) hfoG (by rw[a1o hbl,d3f _ _ hgm,List.length_map]) (λc hc=>a0q (Ne.symm hc))).head ?_ ?_ ?_ ?_ (by rw[a33];omega) ?_
        ·intro x hx;simp+decide only[go_sem]at hx;simpa using hx
        ·simp+decide only[go_sem]<;>simp
        ·simp+decide only[go_sem]<;>simp
        ·simp+decide only[go_sem]<;>simp
        ·intro π w' b' ids' H2 hw' hb' hG';refine⟨j+1,w',b',ids',rfl,hjl,?_,b96 hG' (λi _=>?_)⟩
         ·simp+decide only[go_sem,hw',hb']<;>rfl
         ·unfold cpC;by_cases hij:i=j
          ·subst hij;rw[if_pos rfl,if_pos (by omega),hgj];rfl
          ·rw[if_neg hij];by_cases h2:i<j
           ·rw[if_pos h2,if_pos (by omega)]
           ·rw[if_neg h2,if_neg (by omega)]
       ·obtain rfl:j=gs.length:=by omega
        have d1:¬(gs.length:Int)<gs.length:=by omega
        have k1:=c4w (d:=false) (H:=H1) (b:=w) (n:=outs.length) (b73 outs) hG.out;obtain⟨H',σ,ids',k2,hG',hlen⟩:=c4y (E:=L.env) (d:=false) (call:=sem L.env Mf) (g:=42) (n:=gs.length) (c:=none) (c':=some gs.length) (by kernel_rfl) (by kernel_rfl) hG (by rw[a33];omega) (λH0 b' R hR hlow=>d1w gs.length H0 b' R hR hlow)
        (repeat first|simp only[ww]|(apply xa;simp+decide only[go_sem,d1,k1,k2];rfl;kernel_rfl))
        have z1:=hG'.two.frz (some gs.length);rw[a33]at z1;have z2:a23 0 true (a3v (a01 H') 0 12) (.slice w 0 outs.length (some outs.length))=some (.islice (outs.map Cb.cells) (some outs.length)):=by have ht:List.take outs.length (outs.map Cb.cells)=outs.map Cb.cells:=List.take_of_length_le (by simp);have hf:=a3p (m:=0) (d:=a3v (a01 H') 0 11) (b73 outs);have ho:=hG'.out;simp+decide only[go_sem,ho,ht,hf,List.length_map]<;>rfl
        refine a3q (vs:=[.slice w 0 outs.length (some outs.length),.slice b 0 gs.length (some gs.length),.int .i64 0]) (r:=(_,_)) (by simp+decide only[go_sem]) ?_ rfl;have hro:e0e outs = .islice (outs.map Cb.cells) (some outs.length):=by
         cases outs with
         |nil=>exact absurd rfl h1
         |cons x t=>rfl
        have hg1:gs≠[]:=by intro e;rw[e]at hIl;exact h1 (List.eq_nil_of_length_eq_zero hIl)
        have hrg:e0f gs = .islice (gs.map λg=>[lsV g]) (some gs.length):=by
         cases gs with
         |nil=>exact absurd rfl hg1
         |cons x t=>rfl
        have hmi:((foG gs).mapIdx λj f=>[slF (cpC gs gs.length j) f])=gs.map λg=>[lsV g]:=by
         apply List.ext_getElem?;intro j;rw[List.getElem?_mapIdx,List.getElem?_map];cases hgj:gs[j]? with
         |none=>simp[foG,hgj]
         |some g=>
          have hjl:=(List.getElem?_eq_some_iff.1 hgj).1;rw[b3b hgj];simp only[Option.map_some,cpC,if_pos hjl,hgj];cases g with
          |nil=>exact absurd rfl (hI.ne [] (List.mem_of_getElem? hgj)).1
          |cons x t=>simp[slF,lsV]
        rw[hmi]at z1;rw[hro,hrg];show a0j false 0 _ H'=_;have hz:a23 0 true (a3v (a01 H') 0 12) (.tuple [.slice w 0 outs.length (some outs.length),.slice b 0 gs.length (some gs.length),.int .i64 0])=some (.tuple [.islice (outs.map Cb.cells) (some outs.length),.islice (gs.map λg=>[lsV g]) (some gs.length),.int .i64 0]):=by simp+decide only[go_sem]at z1 z2;simp+decide only[go_sem,z1,z2]<;>rfl
        rw[b9f,c6i,hz];rfl
theorem c0z(H:a04)(c:Option (Option Nat))(ps:List Cb)(n m:Nat)(h:∀p∈ps,p.sh n m)(hl:ps.length≤100):a0d L.env false (sem L.env Mf) (.func (.func 11) [] []) [sl c (ps.map Cb.cells)] H=some (.tuple [e0e (a50 ps ps.length).1,e0f (a50 ps ps.length).2,.int .i64 0],H,[]):=by
 obtain⟨r,rfl,hr⟩:=c6d c ps n m h hl;have h1:∀l,refs (e0e l)=[]:=λl=>by cases l<;>rfl
 have h2:∀l,refs (e0f l)=[]:=λl=>by cases l<;>rfl
 exact a07 (by kernel_rfl) (by kernel_rfl) rfl (by simp[a0a,a64]) hr (by simp[refs,a0a,h1,h2])
inductive RU(l:List Nat):AV→a04→Prop
 |nil (h:l=[]):RU l .nilslice []
 |blk (h:l≠[]):RU l (.slice 0 0 l.length none) [some (.row 1 (l.map u8R))]
def m3(l:List Nat):List Nat:=l.map (·% 3)
theorem b7x(l:List Nat)(V:AV)(H:a04)(hV:RU l V H)(hl:l.length≤1000)(hb:∀x∈l,x<256):sem L.env Mf 150 [V] H=some (slU (m3 l),H):=by
 cases hV with
 |nil h0=>
  subst h0
  suffices hs:∃r:AV×a04,(r=(.nilslice,[]))∧sem L.env Mf 150 [.nilslice] []=some r by obtain⟨r,rfl,h3⟩:=hs;exact h3
  (refine svE Tryz.f150 ?_;simp only[Tryz.f150,gS])
  (repeat first|simp only[ww]|(apply xa;simp+decide only[go_sem];rfl;kernel_rfl))
  refine a0t kp150_0 (λq F H1=>F=[(0,.nilslice),(3,.nilslice),(4,.int .i64 0)]∧H1=[]) 0 ?_ ?_
  ·exact⟨_,_,by(simp+decide only[go_sem,a03,a00]<;>rfl)<;>rfl,rfl,rfl⟩
  ·rintro q F H1 ⟨rfl,rfl⟩
   (repeat first|simp only[ww]|(apply xa;simp+decide only[go_sem];rfl;kernel_rfl))
   exact a32 (vs:=[.nilslice]) (r:=(_,_)) (by simp+decide only[go_sem]) (by simp+decide only[go_sem,a0j]<;>rfl) rfl
 |blk h0=>
  suffices hs:∃r:AV×a04,(r=(slU (m3 l),[some (.row 1 (l.map u8R))]))∧sem L.env Mf 150 [.slice 0 0 l.length none] [some (.row 1 (l.map u8R))]=some r by obtain⟨r,rfl,h3⟩:=hs;exact h3
  (refine svE Tryz.f150 ?_;simp only[Tryz.f150,gS])
  (repeat first|simp only[ww]|(apply xa;simp+decide only[go_sem];rfl;kernel_rfl))
  refine a0t kp150_0 (λq F H1=>∃(i:Nat) (o:List Nat),q=l.length-i∧i≤l.length∧o=(m3 l).take i∧F=[(0,.slice 0 0 l.length none),(3,grV 1 (o.map u8R)),(4,.int .i64 i)]∧H1=some (.row 1 (l.map u8R))::grH 1 (o.map u8R)) l.length ?_ ?_
  ·refine⟨_,_,?_,0,[],rfl,Nat.zero_le _,by simp,rfl,rfl⟩
   (simp+decide only[go_sem,a03,a00,a1v,a4i]<;>rfl)<;>rfl
  ·rintro q F H1 ⟨i,o,rfl,hi,ho,rfl,rfl⟩
   have hol:o.length≤i:=by rw[ho];simp;omega
   by_cases hlt:i<l.length
   ·obtain⟨x,hx⟩:∃x,l[i]?=some x:=⟨_,z9e hlt⟩
    have hg:(l.map u8R)[i]?=some [.int .u8 x]:=by rw[List.getElem?_map,hx];rfl
    have hst:(m3 l).take (i+1)=o++[x%3]:=by rw[ho,List.take_add_one];unfold m3;rw[List.getElem?_map,hx];rfl
    have c1:(i:Int)<l.length:=by omega
    have hw:=wI1 (n:=i) (by omega);cases o with
    |nil=>
     simp only[List.map_nil,a1u,a2q]
     (repeat first|simp only[ww]|(apply xa;simp+decide only[go_sem,c1,hlt,hg,hw,List.length_map];rfl;kernel_rfl))
     refine a0b (l.length-(i+1)) (by omega) ⟨_,_,?_,i+1,[x%3],rfl,hlt,hst.symm,rfl,rfl⟩
     (simp+decide only[go_sem,a03,a00,a1v,a4i,List.map_nil,List.map_cons,a0r,a0y,List.length_nil]<;>rfl)<;>rfl
    |cons a r=>
     have hrm:r.length+1+1≤1000000000:=by simp only[List.length_cons]at hol;omega
     simp only[List.map_cons,a0r,a0y,List.length_map]
     (repeat first|simp only[ww]|(apply xa;simp+decide only[go_sem,c1,hlt,hg,hw,hrm,List.length_map];rfl;kernel_rfl))
     refine a0b (l.length-(i+1)) (by omega) ⟨_,_,?_,i+1,a::r++[x%3],rfl,hlt,hst.symm,rfl,rfl⟩
     (simp+decide only[go_sem,a03,a00,a1v,a4i,List.cons_append,List.map_cons,List.map_append,List.map_nil,a0r,a0y,List.length_cons,List.length_map,List.length_append,List.length_nil]<;>rfl)<;>rfl
   ·obtain rfl:i=l.length:=by omega
    have c1:¬(l.length:Int)<l.length:=by omega
    have hoe:o=m3 l:=by rw[ho];exact List.take_of_length_le (by simp[m3])
    rw[←hoe];cases o with
    |nil=>exact absurd hoe.symm (by simp[m3];exact h0)
    |cons a r=>
     simp only[List.map_cons,a0r,a0y,List.length_map]
     (repeat first|simp only[ww]|(apply xa;simp+decide only[go_sem,c1];rfl;kernel_rfl))
     refine a32 (vs:=[.slice 1 0 (r.length+1) none]) (r:=(_,_)) (by simp+decide only[go_sem]) ?_ rfl;simp+decide only[go_sem,a0j,slU,slF,List.map_cons,e7a,d9w,List.length_map,a4i]<;>rfl
def cU:List Nat→Option (Option Nat)|[]=>none|_=>some none
theorem e02(l:List Nat):slU l=sl (cU l) (l.map u8R):=by cases l<;>rfl
def ofC(a b:List Nat):Cb:=⟨cU (m3 a),m3 a,cU (m3 b),m3 b⟩
theorem e5r{d:Bool}(H:a04):a0d L.env d (sem L.env Mf) (.func (.func 150) [] []) [.nilslice] H=some (.nilslice,H,[]):=a07 (by kernel_rfl) (by kernel_rfl) rfl rfl (b7x [] .nilslice [] (.nil rfl) (by simp) (by simp)) rfl
theorem e3g{d:Bool}{H:a04}{b:Nat}{l:List Nat}(h0:l≠[])(hl:l.length≤1000)(hb:∀x∈l,x<256)(hh:a01 H b=some (.row 1 (l.map u8R))):a0d L.env d (sem L.env Mf) (.func (.func 150) [] []) [.slice b 0 l.length none] H=some (slU (m3 l),H,[b]):=a1b (b:=b) (by kernel_rfl) (by kernel_rfl) rfl hh (a0m (a5d l)) (FlatO.row (a5d l)) rfl (args':=[.slice 0 0 l.length none]) (by simp only[List.nil_append,List.append_nil,List.map_cons,List.map_nil,a27]) (b7x l _ _ (.blk h0) hl hb) (a14 _)
section
variable (a b:List Nat)(ha:a≠[])(hb:b≠[])(la:a.length≤1000)(lb:b.length≤1000)(ba:∀x∈a,x<256)(bb:∀x∈b,x<256)
theorem e6f:sem L.env Mf 109 [.agg [.nilslice,.nilslice]] []=some (.agg [slU (m3 []),slU (m3 [])],[]):=by
 have h1:=λH=>e5r (d:=true) H;have e:slU (m3 []) = .nilslice:=rfl;rw[e]
 (refine sv Tryz.f109 ?_;simp only[Tryz.f109,gS])
 (repeat first|simp only[ww]|(apply xa;simp+decide only[go_sem];rfl;kernel_rfl))
 (repeat first|simp only[ww]|((with_reducible first|apply xs2|apply xI);(·simp+decide only[go_sem,h1];rfl);with_reducible first|apply xT|apply xF|(·kernel_rfl)))
 (apply fqb;simp+decide only[go_sem]<;>rfl)
include ha la ba in
theorem e6h:sem L.env Mf 109 [.agg [.slice 0 0 a.length none,.nilslice]] [some (.row 1 (a.map u8R))]=some (.agg [slU (m3 a),slU (m3 [])],[some (.row 1 (a.map u8R))]):=by
 have h1:=λH=>e5r (d:=true) H;have h2:∀X Y,a0d L.env true (sem L.env Mf) (.func (.func 150) [] []) [.slice 0 0 a.length none] [some (.row 1 (a.map u8R)),X,Y]=some (slU (m3 a),[some (.row 1 (a.map u8R)),X,Y],[0]):=λX Y=>e3g ha la ba rfl;have e:slU (m3 []) = .nilslice:=rfl;have hf:∀m d f,a23 m d f (slU (m3 a))=some (slU (m3 a)):=λm d f=>a16 _ _ f _ (a14 _);rw[e]
 (refine sv Tryz.f109 ?_;simp only[Tryz.f109,gS])
 (repeat first|simp only[ww]|(apply xa;simp+decide only[go_sem];rfl;kernel_rfl))
 (repeat first|simp only[ww]|((with_reducible first|apply xs2|apply xI);(·simp+decide only[go_sem,h1,h2,a24,a40,a2u];rfl);with_reducible first|apply xT|apply xF|(·kernel_rfl)))
 (apply fqb;simp+decide only[go_sem,hf,a4i]<;>rfl)
include hb lb bb in
theorem e6g:sem L.env Mf 109 [.agg [.nilslice,.slice 0 0 b.length none]] [some (.row 1 (b.map u8R))]=some (.agg [slU (m3 []),slU (m3 b)],[some (.row 1 (b.map u8R))]):=by
 have h1:=λH=>e5r (d:=true) H;have h2:∀X Y,a0d L.env true (sem L.env Mf) (.func (.func 150) [] []) [.slice 0 0 b.length none] [some (.row 1 (b.map u8R)),X,Y]=some (slU (m3 b),[some (.row 1 (b.map u8R)),X,Y],[0]):=λX Y=>e3g hb lb bb rfl;have e:slU (m3 []) = .nilslice:=rfl;have hf:∀m d f,a23 m d f (slU (m3 b))=some (slU (m3 b)):=λm d f=>a16 _ _ f _ (a14 _);rw[e]
 (refine sv Tryz.f109 ?_;simp only[Tryz.f109,gS])
 (repeat first|simp only[ww]|(apply xa;simp+decide only[go_sem];rfl;kernel_rfl))
 (repeat first|simp only[ww]|((with_reducible first|apply xs2|apply xI);(·simp+decide only[go_sem,h1,h2,a24,a40,a2u];rfl);with_reducible first|apply xT|apply xF|(·kernel_rfl)))
 (apply fqb;simp+decide only[go_sem,hf,a4i]<;>rfl)
include ha hb la lb ba bb in
theorem e6i:sem L.env Mf 109 [.agg [.slice 0 0 a.length none,.slice 1 0 b.length none]] [some (.row 1 (a.map u8R)),some (.row 1 (b.map u8R))]=some (.agg [slU (m3 a),slU (m3 b)],[some (.row 1 (a.map u8R)),some (.row 1 (b.map u8R))]):=by
 have h1:∀X Y Z,a0d L.env true (sem L.env Mf) (.func (.func 150) [] []) [.slice 0 0 a.length none] [some (.row 1 (a.map u8R)),X,Y,Z]=some (slU (m3 a),[some (.row 1 (a.map u8R)),X,Y,Z],[0]):=λX Y Z=>e3g ha la ba rfl;have h2:∀X Y Z,a0d L.env true (sem L.env Mf) (.func (.func 150) [] []) [.slice 1 0 b.length none] [X,some (.row 1 (b.map u8R)),Y,Z]=some (slU (m3 b),[X,some (.row 1 (b.map u8R)),Y,Z],[1]):=λX Y Z=>e3g hb lb bb rfl;have hf:∀m d f,a23 m d f (slU (m3 a))=some (slU (m3 a)):=λm d f=>a16 _ _ f _ (a14 _);have hg:∀m d f,a23 m d f (slU (m3 b))=some (slU (m3 b)):=λm d f=>a16 _ _ f _ (a14 _)
 (refine sv Tryz.f109 ?_;simp only[Tryz.f109,gS])
 (repeat first|simp only[ww]|(apply xa;simp+decide only[go_sem];rfl;kernel_rfl))
 (repeat first|simp only[ww]|((with_reducible first|apply xs2|apply xI);(·simp+decide only[go_sem,h1,h2,a24,a40,a2u];rfl);with_reducible first|apply xT|apply xF|(·kernel_rfl)))
 (apply fqb;simp+decide only[go_sem,hf,hg,a4i]<;>rfl)
end
set_option maxHeartbeats 200000000
structure Bl where
 c:Option (Option Nat)
 l:List Nat
def Bl.enc(r:Bl):List AV:=[sl r.c (r.l.map u8R)]
def vk(r:List Nat)(k:Nat):Nat:=r.getD k 2
theorem d9m{r:List Nat}(h:∀x∈r,x<256)(k:Nat):vk r k<256:=by
 unfold vk;rw[List.getD_eq_getElem?_getD];cases hh:r[k]? with
 |none=>simp
 |some x=>exact h x (List.mem_of_getElem? hh)
def aK(r:List Nat)(n k:Nat):List Nat:=(List.range (min k n)).map (vk r)
def bK(r:List Nat)(n k:Nat):List Nat:=(List.range (k-n)).map λj=>vk r (n+j)
theorem e3a{r:List Nat}(h:∀x∈r,x<256)(n k:Nat):∀x∈aK r n k,x<256:=by intro x hx;obtain⟨j,_,rfl⟩:=List.mem_map.1 hx;exact d9m h j
theorem e30{r:List Nat}(h:∀x∈r,x<256)(n k:Nat):∀x∈bK r n k,x<256:=by intro x hx;obtain⟨j,_,rfl⟩:=List.mem_map.1 hx;exact d9m h (n+j)
theorem b7n{r:List Nat}{n k:Nat}(h:k<n):aK r n (k+1)=aK r n k++[vk r k]:=by unfold aK;rw[Nat.min_eq_left (by omega),Nat.min_eq_left (by omega),List.range_succ,List.map_append];rfl
theorem b7o{r:List Nat}{n k:Nat}(h:¬k<n):aK r n (k+1)=aK r n k:=by unfold aK;rw[Nat.min_eq_right (by omega),Nat.min_eq_right (by omega)]
theorem b7d{r:List Nat}{n k:Nat}(h:¬k<n):bK r n (k+1)=bK r n k++[vk r k]:=by unfold bK;rw[show k+1-n=(k-n)+1 by omega,List.range_succ,List.map_append];simp only[List.map_cons,List.map_nil];rw[show n+(k-n)=k by omega]
theorem b0y{r:List Nat}{n k:Nat}(h:k≤n):bK r n k=[]:=by unfold bK;rw[show k-n=0 by omega];rfl
def shC(n m:Nat)(r:List Nat):Cb:=ofC (aK r n (n+m)) (bK r n (n+m))
theorem e04(n m:Nat)(hn:n+m≤100)(r:List Nat):(shC n m r).sh n m:=by
 refine⟨⟨?_,?_⟩,?_,?_⟩
 ·simp[shC,ofC,m3,aK,bK];omega
 ·intro v hv;unfold Cb.all shC ofC m3 at hv;simp only[List.mem_append,List.mem_map]at hv;rcases hv with ⟨x,_,rfl⟩|⟨x,_,rfl⟩<;>omega
 ·simp[shC,ofC,m3,aK]
 ·simp[shC,ofC,m3,bK]
inductive ShS(X:a04)(A B:List Nat):a04→Prop
 |nn (h1:A=[]) (h2:B=[]):ShS X A B (X++[some (.row 2 [[.nilslice,.nilslice]])])
 |bn (h1:A≠[]) (h2:B=[]):ShS X A B (X++[some (.row 2 [[.slice (X.length+1) 0 A.length none,.nilslice]]),some (.row 1 (A.map u8R))])
 |nb (h1:A=[]) (h2:B≠[]):ShS X A B (X++[some (.row 2 [[.nilslice,.slice (X.length+1) 0 B.length none]]),some (.row 1 (B.map u8R))])
 |bb (h1:A≠[]) (h2:B≠[]):ShS X A B (X++[some (.row 2 [[.slice (X.length+1) 0 A.length none,.slice (X.length+2) 0 B.length none]]),some (.row 1 (A.map u8R)),some (.row 1 (B.map u8R))])
def OX(outs:List Cb)(OV:AV)(X:a04):Prop:=(outs=[]∧OV = .nilslice∧X=[])∨(outs≠[]∧OV = .slice 0 0 outs.length none∧X=[some (.row 2 (outs.map Cb.cells))])
def e0d(ps:List Cb):AV:=slF none (ps.map Cb.cells)
theorem b8i(a b:List Nat):(ofC a b).cells=[slU (m3 a),slU (m3 b)]:=by simp only[Cb.cells,ofC,e02]
theorem a6v(π:Nat→Option Nat)(l:List Nat):ren π (slU l)=slU l:=a0f _ _ (a14 l)
theorem c2i(a b:List Nat):refs (.agg [slU a,slU b])=[]:=by simp[refs,a0a,a14]
abbrev OfF:FuncId:=109
theorem ofN(H:a04):a0d L.env false (sem L.env Mf) (.func (.func OfF) [] []) [.agg [.nilslice,.nilslice]] H=some (.agg [slU (m3 []),slU (m3 [])],H,[]):=a07 (by kernel_rfl) (by kernel_rfl) rfl rfl e6f (c2i _ _)
theorem ofA{H:a04}{b:Nat}{l:List Nat}(h0:l≠[])(hl:l.length≤1000)(hb:∀x∈l,x<256)(hh:a01 H b=some (.row 1 (l.map u8R))):a0d L.env false (sem L.env Mf) (.func (.func OfF) [] []) [.agg [.slice b 0 l.length none,.nilslice]] H=some (.agg [slU (m3 l),slU (m3 [])],H,[b]):=a1b (b:=b) (by kernel_rfl) (by kernel_rfl) rfl hh (a0m (a5d l)) (FlatO.row (a5d l)) rfl (args':=[.agg [.slice 0 0 l.length none,.nilslice]]) (by simp[ren,b6h,a3w]) (e6h l h0 hl hb) (c2i _ _)
theorem ofB{H:a04}{b:Nat}{l:List Nat}(h0:l≠[])(hl:l.length≤1000)(hb:∀x∈l,x<256)(hh:a01 H b=some (.row 1 (l.map u8R))):a0d L.env false (sem L.env Mf) (.func (.func OfF) [] []) [.agg [.nilslice,.slice b 0 l.length none]] H=some (.agg [slU (m3 []),slU (m3 l)],H,[b]):=a1b (b:=b) (by kernel_rfl) (by kernel_rfl) rfl hh (a0m (a5d l)) (FlatO.row (a5d l)) rfl (args':=[.agg [.nilslice,.slice 0 0 l.length none]]) (by simp[ren,b6h,a3w]) (e6g l h0 hl hb) (c2i _ _)
theorem e96{H:a04}{b d:Nat}{l k:List Nat}(hbd:b≠d)(h0:l≠[])(hl:l.length≤1000)(hb:∀x∈l,x<256)(k0:k≠[])(kl:k.length≤1000)(kb:∀x∈k,x<256)(hh:a01 H b=some (.row 1 (l.map u8R)))(hk:a01 H d=some (.row 1 (k.map u8R))):a0d L.env false (sem L.env Mf) (.func (.func OfF) [] []) [.agg [.slice b 0 l.length none,.slice d 0 k.length none]] H=some (.agg [slU (m3 l),slU (m3 k)],H,[b,d]):=by
 have hc:=b9t (E:=L.env) (draw:=false) (call:=sem L.env Mf) (g:=OfF) (fs:=[]) (cs:=[]) (ar:=[.agg [.slice b 0 l.length none,.slice d 0 k.length none]]) (by kernel_rfl) (by kernel_rfl) rfl hbd hh hk (a0m (a5d l)) (a0m (a5d k)) (FlatO.row (a5d l)) (FlatO.row (a5d k)) rfl
  (args':=[.agg [.slice 0 0 l.length none,.slice 1 0 k.length none]]) (by simp[ren,b6h,a3w,List.idxOf?_cons,hbd]) (e6i l k h0 k0 hl kl hb kb) (FlatO.row (a5d l)) (FlatO.row (a5d k)) (v':=.agg [slU (m3 l),slU (m3 k)]) (a0f _ _ (c2i _ _))
 rw[a54 hh,a54 hk]at hc;exact hc
theorem c5u(c:Option (Option Nat))(ls:List Bl)(hb:∀r∈ls,∀x∈r.l,x<256)(hl:ls.length≤100)(z:Nat)(hz:z<256):sem L.env Mf 70 [sl c (ls.map Bl.enc),.int .u8 z] []=some (e0d (ls.map λr=>shC (z%4) (z/4%3) r.l),[]):=by
 suffices hs:∃r:AV×a04,(r=(e0d (ls.map λr=>shC (z%4) (z/4%3) r.l),[]))∧sem L.env Mf 70 [sl c (ls.map Bl.enc),.int .u8 z] []=some r by obtain⟨r,rfl,h3⟩:=hs;exact h3
 have w1:IntKind.i64.wrap ((z%4:Nat):Int)=(z%4:Nat):=w64 (by omega) (by omega);have w2:IntKind.i64.wrap ((z/4%3:Nat):Int)=(z/4%3:Nat):=w64 (by omega) (by omega);have hwq:IntKind.u8.wrap ((z/4:Nat):Int)=((z/4:Nat):Int):=wB (by omega)
 (refine svE Tryz.f70 ?_;simp only[Tryz.f70,gS])
 (repeat first|simp only[ww]|(apply xa;simp+decide only[go_sem,w1,hwq,w2];rfl;kernel_rfl))
 have hn:z%4≤3:=by omega
 have hm:z/4%3≤2:=by omega
 clear w1 w2 hwq;generalize z%4=n at hn⊢;generalize z/4%3=m at hm⊢;have wnm:IntKind.i64.wrap ((n:Int)+(m:Int))=((n+m:Nat):Int):=by rw[w64 (by omega) (by omega)];omega
 refine a0t kp70_0 (λq F H1=>∃(i:Nat) (outs:List Cb) (OV:AV),q=ls.length-i∧i≤ls.length∧outs=((ls.take i).map λr=>shC n m r.l)∧OX outs OV H1∧F=[(0,sl c (ls.map Bl.enc)),(5,OV),(6,.int .i64 n),(7,.int .i64 m),(8,.int .i64 i)]) ls.length ?_ ?_
 ·refine⟨_,_,?_,0,[],.nilslice,rfl,Nat.zero_le _,rfl,.inl ⟨rfl,rfl,rfl⟩,rfl⟩
  (simp+decide only[go_sem,a03,a00]<;>rfl)<;>rfl
 ·rintro q F H1 ⟨i,outs,OV,rfl,hi,ho,hO,rfl⟩
  by_cases hlt:i<ls.length
  ·have c1:(i:Int)<ls.length:=by omega
   obtain⟨r,hr⟩:∃r,ls[i]?=some r:=⟨_,z9e hlt⟩
   have hg:(ls.map Bl.enc)[i]?=some r.enc:=by rw[List.getElem?_map,hr];rfl
   have hg2:(ls.map Bl.enc)[i]?=some [sl r.c (r.l.map u8R)]:=hg;have hrb:=hb r (List.mem_of_getElem? hr);have hwi:=wI1 (n:=i) (by omega);have hst:((ls.take (i+1)).map λr=>shC n m r.l)=outs++[shC n m r.l]:=by rw[ho,List.take_add_one,hr];simp
   have hol:outs.length=i:=by rw[ho];simp;omega
   have hmx:i-1+2≤1000000000:=by omega
   rcases hO with ⟨rfl,rfl,rfl⟩|⟨hne,rfl,rfl⟩
   all_goals
    (repeat first|simp only[ww]|(apply xa;simp+decide only[go_sem,c1,hlt,hg,List.length_map];rfl;kernel_rfl))
   ·refine a0t kp70_2 (λq F H=>∃(k:Nat),q=n+m-k∧k≤n+m∧F=[(0,sl c (ls.map Bl.enc)),(5,.nilslice),(6,.int .i64 n),(7,.int .i64 m),(8,.int .i64 i),(9,.ptr 0 0 0),(10,.int .i64 k)]∧ShS [] (aK r.l n k) (bK r.l n k) H) (n+m) ?_ ?_
    ·refine⟨_,_,?_,0,rfl,Nat.zero_le _,rfl,.nn (by simp[aK]) (by simp[bK])⟩
     (simp+decide only[go_sem,a03,a00]<;>rfl)<;>rfl
    ·rintro q F H1 ⟨k,rfl,hk,rfl,hS⟩
     have hA:=e3a hrb n k;have hB:=e30 hrb n k;have hAl:(aK r.l n k).length+1≤1000000000:=by simp[aK];omega
     have hBl:(bK r.l n k).length+1≤1000000000:=by simp[bK];omega
     by_cases hkn:k<n+m
     ·have d1:(k:Int)<((n+m:Nat):Int):=by omega
      have hwk:=wI1 (n:=k) (by omega);by_cases hkl:k<r.l.length
      ·have d2:(k:Int)<r.l.length:=by omega
       obtain⟨x,hx⟩:∃x,r.l[k]?=some x:=⟨_,z9e hkl⟩
       have hgx:(r.l.map u8R)[k]?=some [.int .u8 x]:=by rw[List.getElem?_map,hx];rfl
       have hv:vk r.l k=x:=by simp[vk,List.getD_eq_getElem?_getD,hx]
       by_cases hki:k<n
       ·have d3:(k:Int)<n:=by omega
        have hb0:bK r.l n k=[]:=b0y (by omega);have hb1:bK r.l n (k+1)=[]:=b0y (by omega);have ha1:=b7n (r:=r.l) hki;rw[hv]at ha1;rw[hb0]at hS;generalize aK r.l n k=A at hS ha1 hAl;cases hS with
        |nn h1 h2=>
         subst h1
         (repeat first|simp only[ww]|(apply xa;simp+decide only[go_sem,wnm,d1,d3,hg2,hlt,hwk,hAl,hBl,List.length_map,List.nil_append,List.cons_append,List.length_nil,List.length_cons,List.map_nil,List.map_cons,d2,hgx,hkl];rfl;kernel_rfl))
         refine a0b (n+m-(k+1)) (by omega) ⟨_,?_,?_,k+1,rfl,by omega,rfl,?_⟩
         rotate_left
         ·(simp+decide only[go_sem,a03,a00,a1v,a4i]<;>rfl)<;>rfl
         ·rw[ha1,hb1];have hS:=ShS.bn (X:=([]:a04)) (A:=[x]) (B:=[]) (by first|assumption|(simp;done)) (by first|assumption|(simp;done));simp only[List.length_append,List.map_append,List.length_cons,List.length_nil,List.map_cons,List.map_nil,List.nil_append,List.cons_append]at hS;exact hS
        |bn h1 h2=>
         (repeat first|simp only[ww]|(apply xa;simp+decide only[go_sem,wnm,d1,d3,hg2,hlt,hwk,hAl,hBl,List.length_map,List.nil_append,List.cons_append,List.length_nil,List.length_cons,List.map_nil,List.map_cons,d2,hgx,hkl];rfl;kernel_rfl))
         refine a0b (n+m-(k+1)) (by omega) ⟨_,?_,?_,k+1,rfl,by omega,rfl,?_⟩
         rotate_left
         ·(simp+decide only[go_sem,a03,a00,a1v,a4i]<;>rfl)<;>rfl
         ·rw[ha1,hb1];have hS:=ShS.bn (X:=([]:a04)) (A:=A++[x]) (B:=[]) (by first|assumption|(simp;done)) (by first|assumption|(simp;done));simp only[List.length_append,List.map_append,List.length_cons,List.length_nil,List.map_cons,List.map_nil,List.nil_append,List.cons_append]at hS;exact hS
        |nb h1 h2=>exact absurd rfl h2
        |bb h1 h2=>exact absurd rfl h2
       ·have d3:¬(k:Int)<n:=by omega
        have ha1:=b7o (r:=r.l) hki;have hb1:=b7d (r:=r.l) hki;rw[hv]at hb1;generalize bK r.l n k=B at hS hb1 hBl;generalize aK r.l n k=A at hS ha1 hAl;cases hS with
        |nn h1 h2=>
         subst h1;subst h2
         (repeat first|simp only[ww]|(apply xa;simp+decide only[go_sem,wnm,d1,d3,hg2,hlt,hwk,hAl,hBl,List.length_map,List.nil_append,List.cons_append,List.length_nil,List.length_cons,List.map_nil,List.map_cons,d2,hgx,hkl];rfl;kernel_rfl))
         refine a0b (n+m-(k+1)) (by omega) ⟨_,?_,?_,k+1,rfl,by omega,rfl,?_⟩
         rotate_left
         ·(simp+decide only[go_sem,a03,a00,a1v,a4i]<;>rfl)<;>rfl
         ·rw[ha1,hb1];have hS:=ShS.nb (X:=([]:a04)) (A:=[]) (B:=[x]) (by first|assumption|(simp;done)) (by first|assumption|(simp;done));simp only[List.length_append,List.map_append,List.length_cons,List.length_nil,List.map_cons,List.map_nil,List.nil_append,List.cons_append]at hS;exact hS
        |bn h1 h2=>
         subst h2
         (repeat first|simp only[ww]|(apply xa;simp+decide only[go_sem,wnm,d1,d3,hg2,hlt,hwk,hAl,hBl,List.length_map,List.nil_append,List.cons_append,List.length_nil,List.length_cons,List.map_nil,List.map_cons,d2,hgx,hkl];rfl;kernel_rfl))
         refine a0b (n+m-(k+1)) (by omega) ⟨_,?_,?_,k+1,rfl,by omega,rfl,?_⟩
         rotate_left
         ·(simp+decide only[go_sem,a03,a00,a1v,a4i]<;>rfl)<;>rfl
         ·rw[ha1,hb1];have hS:=ShS.bb (X:=([]:a04)) (A:=A) (B:=[x]) (by first|assumption|(simp;done)) (by first|assumption|(simp;done));simp only[List.length_append,List.map_append,List.length_cons,List.length_nil,List.map_cons,List.map_nil,List.nil_append,List.cons_append]at hS;exact hS
        |nb h1 h2=>
         subst h1
         (repeat first|simp only[ww]|(apply xa;simp+decide only[go_sem,wnm,d1,d3,hg2,hlt,hwk,hAl,hBl,List.length_map,List.nil_append,List.cons_append,List.length_nil,List.length_cons,List.map_nil,List.map_cons,d2,hgx,hkl];rfl;kernel_rfl))
         refine a0b (n+m-(k+1)) (by omega) ⟨_,?_,?_,k+1,rfl,by omega,rfl,?_⟩
         rotate_left
         ·(simp+decide only[go_sem,a03,a00,a1v,a4i]<;>rfl)<;>rfl
         ·rw[ha1,hb1];have hS:=ShS.nb (X:=([]:a04)) (A:=[]) (B:=B++[x]) (by first|assumption|(simp;done)) (by first|assumption|(simp;done));simp only[List.length_append,List.map_append,List.length_cons,List.length_nil,List.map_cons,List.map_nil,List.nil_append,List.cons_append]at hS;exact hS
        |bb h1 h2=>
         (repeat first|simp only[ww]|(apply xa;simp+decide only[go_sem,wnm,d1,d3,hg2,hlt,hwk,hAl,hBl,List.length_map,List.nil_append,List.cons_append,List.length_nil,List.length_cons,List.map_nil,List.map_cons,d2,hgx,hkl];rfl;kernel_rfl))
         refine a0b (n+m-(k+1)) (by omega) ⟨_,?_,?_,k+1,rfl,by omega,rfl,?_⟩
         rotate_left
         ·(simp+decide only[go_sem,a03,a00,a1v,a4i]<;>rfl)<;>rfl
         ·rw[ha1,hb1];have hS:=ShS.bb (X:=([]:a04)) (A:=A) (B:=B++[x]) (by first|assumption|(simp;done)) (by first|assumption|(simp;done));simp only[List.length_append,List.map_append,List.length_cons,List.length_nil,List.map_cons,List.map_nil,List.nil_append,List.cons_append]at hS;exact hS
      ·have d2:¬(k:Int)<r.l.length:=by omega
       have hv:vk r.l k=2:=by simp[vk,List.getD_eq_getElem?_getD,Nat.le_of_not_lt hkl]
       by_cases hki:k<n
       ·have d3:(k:Int)<n:=by omega
        have hb0:bK r.l n k=[]:=b0y (by omega);have hb1:bK r.l n (k+1)=[]:=b0y (by omega);have ha1:=b7n (r:=r.l) hki;rw[hv]at ha1;rw[hb0]at hS;generalize aK r.l n k=A at hS ha1 hAl;cases hS with
        |nn h1 h2=>
         subst h1
         (repeat first|simp only[ww]|(apply xa;simp+decide only[go_sem,wnm,d1,d3,hg2,hlt,hwk,hAl,hBl,List.length_map,List.nil_append,List.cons_append,List.length_nil,List.length_cons,List.map_nil,List.map_cons,d2];rfl;kernel_rfl))
         refine a0b (n+m-(k+1)) (by omega) ⟨_,?_,?_,k+1,rfl,by omega,rfl,?_⟩
         rotate_left
         ·(simp+decide only[go_sem,a03,a00,a1v,a4i]<;>rfl)<;>rfl
         ·rw[ha1,hb1];have hS:=ShS.bn (X:=([]:a04)) (A:=[2]) (B:=[]) (by first|assumption|(simp;done)) (by first|assumption|(simp;done));simp only[List.length_append,List.map_append,List.length_cons,List.length_nil,List.map_cons,List.map_nil,List.nil_append,List.cons_append]at hS;exact hS
        |bn h1 h2=>
         (repeat first|simp only[ww]|(apply xa;simp+decide only[go_sem,wnm,d1,d3,hg2,hlt,hwk,hAl,hBl,List.length_map,List.nil_append,List.cons_append,List.length_nil,List.length_cons,List.map_nil,List.map_cons,d2];rfl;kernel_rfl))
         refine a0b (n+m-(k+1)) (by omega) ⟨_,?_,?_,k+1,rfl,by omega,rfl,?_⟩
         rotate_left
         ·(simp+decide only[go_sem,a03,a00,a1v,a4i]<;>rfl)<;>rfl
         ·rw[ha1,hb1];have hS:=ShS.bn (X:=([]:a04)) (A:=A++[2]) (B:=[]) (by first|assumption|(simp;done)) (by first|assumption|(simp;done));simp only[List.length_append,List.map_append,List.length_cons,List.length_nil,List.map_cons,List.map_nil,List.nil_append,List.cons_append]at hS;exact hS
        |nb h1 h2=>exact absurd rfl h2
        |bb h1 h2=>exact absurd rfl h2
       ·have d3:¬(k:Int)<n:=by omega
        have ha1:=b7o (r:=r.l) hki;have hb1:=b7d (r:=r.l) hki;rw[hv]at hb1;generalize bK r.l n k=B at hS hb1 hBl;generalize aK r.l n k=A at hS ha1 hAl;cases hS with
        |nn h1 h2=>
         subst h1;subst h2
         (repeat first|simp only[ww]|(apply xa;simp+decide only[go_sem,wnm,d1,d3,hg2,hlt,hwk,hAl,hBl,List.length_map,List.nil_append,List.cons_append,List.length_nil,List.length_cons,List.map_nil,List.map_cons,d2];rfl;kernel_rfl))
         refine a0b (n+m-(k+1)) (by omega) ⟨_,?_,?_,k+1,rfl,by omega,rfl,?_⟩
         rotate_left
         ·(simp+decide only[go_sem,a03,a00,a1v,a4i]<;>rfl)<;>rfl
         ·rw[ha1,hb1];have hS:=ShS.nb (X:=([]:a04)) (A:=[]) (B:=[2]) (by first|assumption|(simp;done)) (by first|assumption|(simp;done));simp only[List.length_append,List.map_append,List.length_cons,List.length_nil,List.map_cons,List.map_nil,List.nil_append,List.cons_append]at hS;exact hS
        |bn h1 h2=>
         subst h2
         (repeat first|simp only[ww]|(apply xa;simp+decide only[go_sem,wnm,d1,d3,hg2,hlt,hwk,hAl,hBl,List.length_map,List.nil_append,List.cons_append,List.length_nil,List.length_cons,List.map_nil,List.map_cons,d2];rfl;kernel_rfl))
         refine a0b (n+m-(k+1)) (by omega) ⟨_,?_,?_,k+1,rfl,by omega,rfl,?_⟩
         rotate_left
         ·(simp+decide only[go_sem,a03,a00,a1v,a4i]<;>rfl)<;>rfl
         ·rw[ha1,hb1];have hS:=ShS.bb (X:=([]:a04)) (A:=A) (B:=[2]) (by first|assumption|(simp;done)) (by first|assumption|(simp;done));simp only[List.length_append,List.map_append,List.length_cons,List.length_nil,List.map_cons,List.map_nil,List.nil_append,List.cons_append]at hS;exact hS
        |nb h1 h2=>
         subst h1
         (repeat first|simp only[ww]|(apply xa;simp+decide only[go_sem,wnm,d1,d3,hg2,hlt,hwk,hAl,hBl,List.length_map,List.nil_append,List.cons_append,List.length_nil,List.length_cons,List.map_nil,List.map_cons,d2];rfl;kernel_rfl))
         refine a0b (n+m-(k+1)) (by omega) ⟨_,?_,?_,k+1,rfl,by omega,rfl,?_⟩
         rotate_left
         ·(simp+decide only[go_sem,a03,a00,a1v,a4i]<;>rfl)<;>rfl
         ·rw[ha1,hb1];have hS:=ShS.nb (X:=([]:a04)) (A:=[]) (B:=B++[2]) (by first|assumption|(simp;done)) (by first|assumption|(simp;done));simp only[List.length_append,List.map_append,List.length_cons,List.length_nil,List.map_cons,List.map_nil,List.nil_append,List.cons_append]at hS;exact hS
        |bb h1 h2=>
         (repeat first|simp only[ww]|(apply xa;simp+decide only[go_sem,wnm,d1,d3,hg2,hlt,hwk,hAl,hBl,List.length_map,List.nil_append,List.cons_append,List.length_nil,List.length_cons,List.map_nil,List.map_cons,d2];rfl;kernel_rfl))
         refine a0b (n+m-(k+1)) (by omega) ⟨_,?_,?_,k+1,rfl,by omega,rfl,?_⟩
         rotate_left
         ·(simp+decide only[go_sem,a03,a00,a1v,a4i]<;>rfl)<;>rfl
         ·rw[ha1,hb1];have hS:=ShS.bb (X:=([]:a04)) (A:=A) (B:=B++[2]) (by first|assumption|(simp;done)) (by first|assumption|(simp;done));simp only[List.length_append,List.map_append,List.length_cons,List.length_nil,List.map_cons,List.map_nil,List.nil_append,List.cons_append]at hS;exact hS
     ·obtain rfl:k=n+m:=by omega
      have d1:¬((n+m:Nat):Int)<((n+m:Nat):Int):=by omega
      have hal:(aK r.l n (n+m)).length≤1000:=by simp[aK];omega
      have hbl:(bK r.l n (n+m)).length≤1000:=by simp[bK];omega
      have hsh:(shC n m r.l).cells=[slU (m3 (aK r.l n (n+m))),slU (m3 (bK r.l n (n+m)))]:=b8i _ _;generalize aK r.l n (n+m)=A at hS hal hA hsh;generalize bK r.l n (n+m)=B at hS hbl hB hsh;cases hS with
      |nn h1 h2=>
       subst h1;subst h2;have hc:=λH=>ofN H
       skip
       (repeat first|simp only[ww]|(apply xa;simp+decide only[go_sem,wnm,d1,hc,a24,a40,a2u,hwi,List.length_map,List.length_nil,List.length_cons,List.map_nil,List.map_cons];rfl;kernel_rfl))
       refine a0b (ls.length-(i+1)) (by omega) ⟨_,[some (.row 2 ([shC n m r.l].map Cb.cells))],?_,i+1,[shC n m r.l],_,rfl,hlt,hst.symm,.inr ⟨by simp,rfl,rfl⟩,rfl⟩
       (simp+decide only[go_sem,a03,a00,a4v,b14,a14,a6v,a4i,a1v,hsh,List.length_append,List.length_cons,List.length_nil,List.map_append,List.map_cons,List.map_nil]<;>rfl)<;>rfl
      |bn h1 h2=>
       subst h2;have hc:=λ(t:a04)=>ofA h1 hal hA (show a01 (([]:a04)++[some (.row 2 [[.slice (0+1) 0 A.length none,.nilslice]]),some (.row 1 (A.map u8R))]++t) (0+1)=_ from rfl);have hc:=hc [];simp only[List.append_nil,List.cons_append,List.nil_append,Nat.zero_add,Nat.reduceAdd]at hc
       skip
       (repeat first|simp only[ww]|(apply xa;simp+decide only[go_sem,wnm,d1,hc,a24,a40,a2u,hwi,List.length_map,List.length_nil,List.length_cons,List.map_nil,List.map_cons];rfl;kernel_rfl))
       refine a0b (ls.length-(i+1)) (by omega) ⟨_,[some (.row 2 ([shC n m r.l].map Cb.cells))],?_,i+1,[shC n m r.l],_,rfl,hlt,hst.symm,.inr ⟨by simp,rfl,rfl⟩,rfl⟩
       (simp+decide only[go_sem,a03,a00,a4v,b14,a14,a6v,a4i,a1v,hsh,List.length_append,List.length_cons,List.length_nil,List.map_append,List.map_cons,List.map_nil]<;>rfl)<;>rfl
      |nb h1 h2=>
       subst h1;have hc:=λ(t:a04)=>ofB h2 hbl hB (show a01 (([]:a04)++[some (.row 2 [[.nilslice,.slice (0+1) 0 B.length none]]),some (.row 1 (B.map u8R))]++t) (0+1)=_ from rfl);have hc:=hc [];simp only[List.append_nil,List.cons_append,List.nil_append,Nat.zero_add,Nat.reduceAdd]at hc
       skip
       (repeat first|simp only[ww]|(apply xa;simp+decide only[go_sem,wnm,d1,hc,a24,a40,a2u,hwi,List.length_map,List.length_nil,List.length_cons,List.map_nil,List.map_cons];rfl;kernel_rfl))
       refine a0b (ls.length-(i+1)) (by omega) ⟨_,[some (.row 2 ([shC n m r.l].map Cb.cells))],?_,i+1,[shC n m r.l],_,rfl,hlt,hst.symm,.inr ⟨by simp,rfl,rfl⟩,rfl⟩
       (simp+decide only[go_sem,a03,a00,a4v,b14,a14,a6v,a4i,a1v,hsh,List.length_append,List.length_cons,List.length_nil,List.map_append,List.map_cons,List.map_nil]<;>rfl)<;>rfl
      |bb h1 h2=>
       have hc:=λ(t:a04)=>e96 (show 0+1≠0+2 by omega) h1 hal hA h2 hbl hB (show a01 (([]:a04)++[some (.row 2 [[.slice (0+1) 0 A.length none,.slice (0+2) 0 B.length none]]),some (.row 1 (A.map u8R)),some (.row 1 (B.map u8R))]++t) (0+1)=_ from rfl) rfl;have hc:=hc [];simp only[List.append_nil,List.cons_append,List.nil_append,Nat.zero_add,Nat.reduceAdd]at hc
       skip
       (repeat first|simp only[ww]|(apply xa;simp+decide only[go_sem,wnm,d1,hc,a24,a40,a2u,hwi,List.length_map,List.length_nil,List.length_cons,List.map_nil,List.map_cons];rfl;kernel_rfl))
       refine a0b (ls.length-(i+1)) (by omega) ⟨_,[some (.row 2 ([shC n m r.l].map Cb.cells))],?_,i+1,[shC n m r.l],_,rfl,hlt,hst.symm,.inr ⟨by simp,rfl,rfl⟩,rfl⟩
       (simp+decide only[go_sem,a03,a00,a4v,b14,a14,a6v,a4i,a1v,hsh,List.length_append,List.length_cons,List.length_nil,List.map_append,List.map_cons,List.map_nil]<;>rfl)<;>rfl
   ·refine a0t kp70_2 (λq F H=>∃(k:Nat),q=n+m-k∧k≤n+m∧F=[(0,sl c (ls.map Bl.enc)),(5,.slice 0 0 outs.length none),(6,.int .i64 n),(7,.int .i64 m),(8,.int .i64 i),(9,.ptr 1 0 0),(10,.int .i64 k)]∧ShS [some (.row 2 (outs.map Cb.cells))] (aK r.l n k) (bK r.l n k) H) (n+m) ?_ ?_
    ·refine⟨_,_,?_,0,rfl,Nat.zero_le _,rfl,.nn (by simp[aK]) (by simp[bK])⟩
     (simp+decide only[go_sem,a03,a00,a4v,b14]<;>rfl)<;>rfl
    ·rintro q F H1 ⟨k,rfl,hk,rfl,hS⟩
     have hA:=e3a hrb n k;have hB:=e30 hrb n k;have hAl:(aK r.l n k).length+1≤1000000000:=by simp[aK];omega
     have hBl:(bK r.l n k).length+1≤1000000000:=by simp[bK];omega
     by_cases hkn:k<n+m
     ·have d1:(k:Int)<((n+m:Nat):Int):=by omega
      have hwk:=wI1 (n:=k) (by omega);by_cases hkl:k<r.l.length
      ·have d2:(k:Int)<r.l.length:=by omega
       obtain⟨x,hx⟩:∃x,r.l[k]?=some x:=⟨_,z9e hkl⟩
       have hgx:(r.l.map u8R)[k]?=some [.int .u8 x]:=by rw[List.getElem?_map,hx];rfl
       have hv:vk r.l k=x:=by simp[vk,List.getD_eq_getElem?_getD,hx]
       by_cases hki:k<n
       ·have d3:(k:Int)<n:=by omega
        have hb0:bK r.l n k=[]:=b0y (by omega);have hb1:bK r.l n (k+1)=[]:=b0y (by omega);have ha1:=b7n (r:=r.l) hki;rw[hv]at ha1;rw[hb0]at hS;generalize aK r.l n k=A at hS ha1 hAl;cases hS with
        |nn h1 h2=>
         subst h1
         (repeat first|simp only[ww]|(apply xa;simp+decide only[go_sem,wnm,d1,d3,hg2,hlt,hwk,hAl,hBl,List.length_map,List.nil_append,List.cons_append,List.length_nil,List.length_cons,List.map_nil,List.map_cons,d2,hgx,hkl];rfl;kernel_rfl))
         refine a0b (n+m-(k+1)) (by omega) ⟨_,?_,?_,k+1,rfl,by omega,rfl,?_⟩
         rotate_left
         ·(simp+decide only[go_sem,a03,a00,a1v,a4i,a4v,b14]<;>rfl)<;>rfl
         ·rw[ha1,hb1];have hS:=ShS.bn (X:=[some (.row 2 (outs.map Cb.cells))]) (A:=[x]) (B:=[]) (by first|assumption|(simp;done)) (by first|assumption|(simp;done));simp only[List.length_append,List.map_append,List.length_cons,List.length_nil,List.map_cons,List.map_nil,List.nil_append,List.cons_append]at hS;exact hS
        |bn h1 h2=>
         (repeat first|simp only[ww]|(apply xa;simp+decide only[go_sem,wnm,d1,d3,hg2,hlt,hwk,hAl,hBl,List.length_map,List.nil_append,List.cons_append,List.length_nil,List.length_cons,List.map_nil,List.map_cons,d2,hgx,hkl];rfl;kernel_rfl))
         refine a0b (n+m-(k+1)) (by omega) ⟨_,?_,?_,k+1,rfl,by omega,rfl,?_⟩
         rotate_left
         ·(simp+decide only[go_sem,a03,a00,a1v,a4i,a4v,b14]<;>rfl)<;>rfl
         ·rw[ha1,hb1];have hS:=ShS.bn (X:=[some (.row 2 (outs.map Cb.cells))]) (A:=A++[x]) (B:=[]) (by first|assumption|(simp;done)) (by first|assumption|(simp;done));simp only[List.length_append,List.map_append,List.length_cons,List.length_nil,List.map_cons,List.map_nil,List.nil_append,List.cons_append]at hS;exact hS
        |nb h1 h2=>exact absurd rfl h2
        |bb h1 h2=>exact absurd rfl h2
       ·have d3:¬(k:Int)<n:=by omega
        have ha1:=b7o (r:=r.l) hki;have hb1:=b7d (r:=r.l) hki;rw[hv]at hb1;generalize bK r.l n k=B at hS hb1 hBl;generalize aK r.l n k=A at hS ha1 hAl;cases hS with
        |nn h1 h2=>
         subst h1;subst h2
         (repeat first|simp only[ww]|(apply xa;simp+decide only[go_sem,wnm,d1,d3,hg2,hlt,hwk,hAl,hBl,List.length_map,List.nil_append,List.cons_append,List.length_nil,List.length_cons,List.map_nil,List.map_cons,d2,hgx,hkl];rfl;kernel_rfl))
         refine a0b (n+m-(k+1)) (by omega) ⟨_,?_,?_,k+1,rfl,by omega,rfl,?_⟩
         rotate_left
         ·(simp+decide only[go_sem,a03,a00,a1v,a4i,a4v,b14]<;>rfl)<;>rfl
         ·rw[ha1,hb1];have hS:=ShS.nb (X:=[some (.row 2 (outs.map Cb.cells))]) (A:=[]) (B:=[x]) (by first|assumption|(simp;done)) (by first|assumption|(simp;done));simp only[List.length_append,List.map_append,List.length_cons,List.length_nil,List.map_cons,List.map_nil,List.nil_append,List.cons_append]at hS;exact hS
        |bn h1 h2=>
         subst h2
         (repeat first|simp only[ww]|(apply xa;simp+decide only[go_sem,wnm,d1,d3,hg2,hlt,hwk,hAl,hBl,List.length_map,List.nil_append,List.cons_append,List.length_nil,List.length_cons,List.map_nil,List.map_cons,d2,hgx,hkl];rfl;kernel_rfl))
         refine a0b (n+m-(k+1)) (by omega) ⟨_,?_,?_,k+1,rfl,by omega,rfl,?_⟩
         rotate_left
         ·(simp+decide only[go_sem,a03,a00,a1v,a4i,a4v,b14]<;>rfl)<;>rfl
         ·rw[ha1,hb1];have hS:=ShS.bb (X:=[some (.row 2 (outs.map Cb.cells))]) (A:=A) (B:=[x]) (by first|assumption|(simp;done)) (by first|assumption|(simp;done));simp only[List.length_append,List.map_append,List.length_cons,List.length_nil,List.map_cons,List.map_nil,List.nil_append,List.cons_append]at hS;exact hS
        |nb h1 h2=>
         subst h1
         (repeat first|simp only[ww]|(apply xa;simp+decide only[go_sem,wnm,d1,d3,hg2,hlt,hwk,hAl,hBl,List.length_map,List.nil_append,List.cons_append,List.length_nil,List.length_cons,List.map_nil,List.map_cons,d2,hgx,hkl];rfl;kernel_rfl))
         refine a0b (n+m-(k+1)) (by omega) ⟨_,?_,?_,k+1,rfl,by omega,rfl,?_⟩
         rotate_left
         ·(simp+decide only[go_sem,a03,a00,a1v,a4i,a4v,b14]<;>rfl)<;>rfl
         ·rw[ha1,hb1];have hS:=ShS.nb (X:=[some (.row 2 (outs.map Cb.cells))]) (A:=[]) (B:=B++[x]) (by first|assumption|(simp;done)) (by first|assumption|(simp;done));simp only[List.length_append,List.map_append,List.length_cons,List.length_nil,List.map_cons,List.map_nil,List.nil_append,List.cons_append]at hS;exact hS
        |bb h1 h2=>
         (repeat first|simp only[ww]|(apply xa;simp+decide only[go_sem,wnm,d1,d3,hg2,hlt,hwk,hAl,hBl,List.length_map,List.nil_append,List.cons_append,List.length_nil,List.length_cons,List.map_nil,List.map_cons,d2,hgx,hkl];rfl;kernel_rfl))
         refine a0b (n+m-(k+1)) (by omega) ⟨_,?_,?_,k+1,rfl,by omega,rfl,?_⟩
         rotate_left
         ·(simp+decide only[go_sem,a03,a00,a1v,a4i,a4v,b14]<;>rfl)<;>rfl
         ·rw[ha1,hb1];have hS:=ShS.bb (X:=[some (.row 2 (outs.map Cb.cells))]) (A:=A) (B:=B++[x]) (by first|assumption|(simp;done)) (by first|assumption|(simp;done));simp only[List.length_append,List.map_append,List.length_cons,List.length_nil,List.map_cons,List.map_nil,List.nil_append,List.cons_append]at hS;exact hS
      ·have d2:¬(k:Int)<r.l.length:=by omega
       have hv:vk r.l k=2:=by simp[vk,List.getD_eq_getElem?_getD,Nat.le_of_not_lt hkl]
       by_cases hki:k<n
       ·have d3:(k:Int)<n:=by omega
        have hb0:bK r.l n k=[]:=b0y (by omega);have hb1:bK r.l n (k+1)=[]:=b0y (by omega);have ha1:=b7n (r:=r.l) hki;rw[hv]at ha1;rw[hb0]at hS;generalize aK r.l n k=A at hS ha1 hAl;cases hS with
        |nn h1 h2=>
         subst h1
         (repeat first|simp only[ww]|(apply xa;simp+decide only[go_sem,wnm,d1,d3,hg2,hlt,hwk,hAl,hBl,List.length_map,List.nil_append,List.cons_append,List.length_nil,List.length_cons,List.map_nil,List.map_cons,d2];rfl;kernel_rfl))
         refine a0b (n+m-(k+1)) (by omega) ⟨_,?_,?_,k+1,rfl,by omega,rfl,?_⟩
         rotate_left
         ·(simp+decide only[go_sem,a03,a00,a1v,a4i,a4v,b14]<;>rfl)<;>rfl
         ·rw[ha1,hb1];have hS:=ShS.bn (X:=[some (.row 2 (outs.map Cb.cells))]) (A:=[2]) (B:=[]) (by first|assumption|(simp;done)) (by first|assumption|(simp;done));simp only[List.length_append,List.map_append,List.length_cons,List.length_nil,List.map_cons,List.map_nil,List.nil_append,List.cons_append]at hS;exact hS
        |bn h1 h2=>
         (repeat first|simp only[ww]|(apply xa;simp+decide only[go_sem,wnm,d1,d3,hg2,hlt,hwk,hAl,hBl,List.length_map,List.nil_append,List.cons_append,List.length_nil,List.length_cons,List.map_nil,List.map_cons,d2];rfl;kernel_rfl))
         refine a0b (n+m-(k+1)) (by omega) ⟨_,?_,?_,k+1,rfl,by omega,rfl,?_⟩
         rotate_left
         ·(simp+decide only[go_sem,a03,a00,a1v,a4i,a4v,b14]<;>rfl)<;>rfl
         ·rw[ha1,hb1];have hS:=ShS.bn (X:=[some (.row 2 (outs.map Cb.cells))]) (A:=A++[2]) (B:=[]) (by first|assumption|(simp;done)) (by first|assumption|(simp;done));simp only[List.length_append,List.map_append,List.length_cons,List.length_nil,List.map_cons,List.map_nil,List.nil_append,List.cons_append]at hS;exact hS
        |nb h1 h2=>exact absurd rfl h2
        |bb h1 h2=>exact absurd rfl h2
       ·have d3:¬(k:Int)<n:=by omega
        have ha1:=b7o (r:=r.l) hki;have hb1:=b7d (r:=r.l) hki;rw[hv]at hb1;generalize bK r.l n k=B at hS hb1 hBl;generalize aK r.l n k=A at hS ha1 hAl;cases hS with
        |nn h1 h2=>
         subst h1;subst h2
         (repeat first|simp only[ww]|(apply xa;simp+decide only[go_sem,wnm,d1,d3,hg2,hlt,hwk,hAl,hBl,List.length_map,List.nil_append,List.cons_append,List.length_nil,List.length_cons,List.map_nil,List.map_cons,d2];rfl;kernel_rfl))
         refine a0b (n+m-(k+1)) (by omega) ⟨_,?_,?_,k+1,rfl,by omega,rfl,?_⟩
         rotate_left
         ·(simp+decide only[go_sem,a03,a00,a1v,a4i,a4v,b14]<;>rfl)<;>rfl
         ·rw[ha1,hb1];have hS:=ShS.nb (X:=[some (.row 2 (outs.map Cb.cells))]) (A:=[]) (B:=[2]) (by first|assumption|(simp;done)) (by first|assumption|(simp;done));simp only[List.length_append,List.map_append,List.length_cons,List.length_nil,List.map_cons,List.map_nil,List.nil_append,List.cons_append]at hS;exact hS
        |bn h1 h2=>
         subst h2
         (repeat first|simp only[ww]|(apply xa;simp+decide only[go_sem,wnm,d1,d3,hg2,hlt,hwk,hAl,hBl,List.length_map,List.nil_append,List.cons_append,List.length_nil,List.length_cons,List.map_nil,List.map_cons,d2];rfl;kernel_rfl))
         refine a0b (n+m-(k+1)) (by omega) ⟨_,?_,?_,k+1,rfl,by omega,rfl,?_⟩
         rotate_left
         ·(simp+decide only[go_sem,a03,a00,a1v,a4i,a4v,b14]<;>rfl)<;>rfl
         ·rw[ha1,hb1];have hS:=ShS.bb (X:=[some (.row 2 (outs.map Cb.cells))]) (A:=A) (B:=[2]) (by first|assumption|(simp;done)) (by first|assumption|(simp;done));simp only[List.length_append,List.map_append,List.length_cons,List.length_nil,List.map_cons,List.map_nil,List.nil_append,List.cons_append]at hS;exact hS
        |nb h1 h2=>
         subst h1
         (repeat first|simp only[ww]|(apply xa;simp+decide only[go_sem,wnm,d1,d3,hg2,hlt,hwk,hAl,hBl,List.length_map,List.nil_append,List.cons_append,List.length_nil,List.length_cons,List.map_nil,List.map_cons,d2];rfl;kernel_rfl))
         refine a0b (n+m-(k+1)) (by omega) ⟨_,?_,?_,k+1,rfl,by omega,rfl,?_⟩
         rotate_left
         ·(simp+decide only[go_sem,a03,a00,a1v,a4i,a4v,b14]<;>rfl)<;>rfl
         ·rw[ha1,hb1];have hS:=ShS.nb (X:=[some (.row 2 (outs.map Cb.cells))]) (A:=[]) (B:=B++[2]) (by first|assumption|(simp;done)) (by first|assumption|(simp;done));simp only[List.length_append,List.map_append,List.length_cons,List.length_nil,List.map_cons,List.map_nil,List.nil_append,List.cons_append]at hS;exact hS
        |bb h1 h2=>
         (repeat first|simp only[ww]|(apply xa;simp+decide only[go_sem,wnm,d1,d3,hg2,hlt,hwk,hAl,hBl,List.length_map,List.nil_append,List.cons_append,List.length_nil,List.length_cons,List.map_nil,List.map_cons,d2];rfl;kernel_rfl))
         refine a0b (n+m-(k+1)) (by omega) ⟨_,?_,?_,k+1,rfl,by omega,rfl,?_⟩
         rotate_left
         ·(simp+decide only[go_sem,a03,a00,a1v,a4i,a4v,b14]<;>rfl)<;>rfl
         ·rw[ha1,hb1];have hS:=ShS.bb (X:=[some (.row 2 (outs.map Cb.cells))]) (A:=A) (B:=B++[2]) (by first|assumption|(simp;done)) (by first|assumption|(simp;done));simp only[List.length_append,List.map_append,List.length_cons,List.length_nil,List.map_cons,List.map_nil,List.nil_append,List.cons_append]at hS;exact hS
     ·obtain rfl:k=n+m:=by omega
      have d1:¬((n+m:Nat):Int)<((n+m:Nat):Int):=by omega
      have hal:(aK r.l n (n+m)).length≤1000:=by simp[aK];omega
      have hbl:(bK r.l n (n+m)).length≤1000:=by simp[bK];omega
      have hsh:(shC n m r.l).cells=[slU (m3 (aK r.l n (n+m))),slU (m3 (bK r.l n (n+m)))]:=b8i _ _;generalize aK r.l n (n+m)=A at hS hal hA hsh;generalize bK r.l n (n+m)=B at hS hbl hB hsh;cases hS with
      |nn h1 h2=>
       subst h1;subst h2;have hc:=λH=>ofN H;have hmx2:outs.length+1≤1000000000:=by omega
       (repeat first|simp only[ww]|(apply xa;simp+decide only[go_sem,wnm,d1,hc,a24,a40,a2u,hwi,List.length_map,List.length_nil,List.length_cons,List.map_nil,List.map_cons,hmx2];rfl;kernel_rfl))
       refine a0b (ls.length-(i+1)) (by omega) ⟨_,[some (.row 2 ((outs++[shC n m r.l]).map Cb.cells))],?_,i+1,(outs++[shC n m r.l]),_,rfl,hlt,hst.symm,.inr ⟨by simp,rfl,rfl⟩,rfl⟩
       (simp+decide only[go_sem,a03,a00,a4v,b14,a14,a6v,a4i,a1v,hsh,List.length_append,List.length_cons,List.length_nil,List.map_append,List.map_cons,List.map_nil]<;>rfl)<;>rfl
      |bn h1 h2=>
       subst h2;have hc:=λ(t:a04)=>ofA h1 hal hA (show a01 ([some (.row 2 (outs.map Cb.cells))]++[some (.row 2 [[.slice (1+1) 0 A.length none,.nilslice]]),some (.row 1 (A.map u8R))]++t) (1+1)=_ from rfl);have hc:=hc [];simp only[List.append_nil,List.cons_append,List.nil_append,Nat.zero_add,Nat.reduceAdd]at hc;have hmx2:outs.length+1≤1000000000:=by omega
       (repeat first|simp only[ww]|(apply xa;simp+decide only[go_sem,wnm,d1,hc,a24,a40,a2u,hwi,List.length_map,List.length_nil,List.length_cons,List.map_nil,List.map_cons,hmx2];rfl;kernel_rfl))
       refine a0b (ls.length-(i+1)) (by omega) ⟨_,[some (.row 2 ((outs++[shC n m r.l]).map Cb.cells))],?_,i+1,(outs++[shC n m r.l]),_,rfl,hlt,hst.symm,.inr ⟨by simp,rfl,rfl⟩,rfl⟩
       (simp+decide only[go_sem,a03,a00,a4v,b14,a14,a6v,a4i,a1v,hsh,List.length_append,List.length_cons,List.length_nil,List.map_append,List.map_cons,List.map_nil]<;>rfl)<;>rfl
      |nb h1 h2=>
       subst h1;have hc:=λ(t:a04)=>ofB h2 hbl hB (show a01 ([some (.row 2 (outs.map Cb.cells))]++[some (.row 2 [[.nilslice,.slice (1+1) 0 B.length none]]),some (.row 1 (B.map u8R))]++t) (1+1)=_ from rfl);have hc:=hc [];simp only[List.append_nil,List.cons_append,List.nil_append,Nat.zero_add,Nat.reduceAdd]at hc;have hmx2:outs.length+1≤1000000000:=by omega
       (repeat first|simp only[ww]|(apply xa;simp+decide only[go_sem,wnm,d1,hc,a24,a40,a2u,hwi,List.length_map,List.length_nil,List.length_cons,List.map_nil,List.map_cons,hmx2];rfl;kernel_rfl))
       refine a0b (ls.length-(i+1)) (by omega) ⟨_,[some (.row 2 ((outs++[shC n m r.l]).map Cb.cells))],?_,i+1,(outs++[shC n m r.l]),_,rfl,hlt,hst.symm,.inr ⟨by simp,rfl,rfl⟩,rfl⟩
       (simp+decide only[go_sem,a03,a00,a4v,b14,a14,a6v,a4i,a1v,hsh,List.length_append,List.length_cons,List.length_nil,List.map_append,List.map_cons,List.map_nil]<;>rfl)<;>rfl
      |bb h1 h2=>
       have hc:=λ(t:a04)=>e96 (show 1+1≠1+2 by omega) h1 hal hA h2 hbl hB (show a01 ([some (.row 2 (outs.map Cb.cells))]++[some (.row 2 [[.slice (1+1) 0 A.length none,.slice (1+2) 0 B.length none]]),some (.row 1 (A.map u8R)),some (.row 1 (B.map u8R))]++t) (1+1)=_ from rfl) rfl;have hc:=hc [];simp only[List.append_nil,List.cons_append,List.nil_append,Nat.zero_add,Nat.reduceAdd]at hc;have hmx2:outs.length+1≤1000000000:=by omega
       (repeat first|simp only[ww]|(apply xa;simp+decide only[go_sem,wnm,d1,hc,a24,a40,a2u,hwi,List.length_map,List.length_nil,List.length_cons,List.map_nil,List.map_cons,hmx2];rfl;kernel_rfl))
       refine a0b (ls.length-(i+1)) (by omega) ⟨_,[some (.row 2 ((outs++[shC n m r.l]).map Cb.cells))],?_,i+1,(outs++[shC n m r.l]),_,rfl,hlt,hst.symm,.inr ⟨by simp,rfl,rfl⟩,rfl⟩
       (simp+decide only[go_sem,a03,a00,a4v,b14,a14,a6v,a4i,a1v,hsh,List.length_append,List.length_cons,List.length_nil,List.map_append,List.map_cons,List.map_nil]<;>rfl)<;>rfl
  ·obtain rfl:i=ls.length:=by omega
   have c1:¬(ls.length:Int)<ls.length:=by omega
   rw[List.take_length]at ho;rw[←ho];have hol:outs.length=ls.length:=by rw[ho];simp
   rcases hO with ⟨h0,rfl,rfl⟩|⟨hne,rfl,rfl⟩
   ·rw[h0]
    (repeat first|simp only[ww]|(apply xa;simp+decide only[go_sem,c1,List.length_map];rfl;kernel_rfl))
    refine a32 (vs:=[.nilslice]) (r:=(_,_)) (by simp+decide only[go_sem]) (by simp+decide only[go_sem,a0j,e0d,slF]<;>rfl) rfl
   ·(repeat first|simp only[ww]|(apply xa;simp+decide only[go_sem,c1,List.length_map];rfl;kernel_rfl))
    refine a3q (vs:=[.slice 0 0 outs.length none]) (r:=(_,_)) (by simp+decide only[go_sem]) ?_ rfl;have hrs:e0d outs = .islice (outs.map Cb.cells) none:=by
     cases outs with
     |nil=>exact absurd rfl hne
     |cons a l=>rfl
    have hf:∀m d,b39 m d (outs.map Cb.cells)=some (outs.map Cb.cells):=λm d=>a3p m d (b73 outs);have ht:List.take outs.length (outs.map Cb.cells)=outs.map Cb.cells:=List.take_of_length_le (by simp);simp+decide only[go_sem,a0j,hrs,hf,ht,List.length_map]<;>rfl
theorem c1y(p:Cb):p.all.length=p.n:=by simp[Cb.all,Cb.n]
theorem b9q{f:Nat→Nat→Bool}{a b:List Nat}{i:Nat}(ha:a.length=i):b45 f a b i=0↔∀(j x y:Nat),a[j]?=some x→b[j]?=some y→f x y=false:=by
 unfold b45;rw[List.take_of_length_le (by simp;omega),List.countP_eq_zero];constructor
 ·intro h j x y hx hy;have:(x,y)∈a.zip b:=List.mem_iff_getElem?.2 ⟨j,by rw[List.getElem?_zip_eq_some];exact⟨hx,hy⟩⟩;simpa using h _ this
 ·intro h z hz;obtain⟨j,hj⟩:=List.mem_iff_getElem?.1 hz;obtain⟨x,y⟩:=z;rw[List.getElem?_zip_eq_some]at hj;simpa using h j x y hj.1 hj.2
theorem b1q{p q:Cb}:a43 p q=true↔∀(j x y:Nat),p.all[j]?=some x→q.all[j]?=some y→x+y≠1:=by unfold a43;rw[decide_eq_true_iff,b9q (c1y p)];simp[d1a]
theorem b77{p q:Cb}:c86 p q=true↔∀(j x y:Nat),p.all[j]?=some x→q.all[j]?=some y→x=2∨x=y:=by
 unfold c86;rw[decide_eq_true_iff,b9q (c1y p)];constructor
 ·intro h j x y hx hy;have:=h j x y hx hy;unfold e2e at this;by_cases h1:x=2
  ·exact .inl h1
  ·by_cases h2:x=y
   ·exact .inr h2
   ·simp[h1,h2]at this
 ·intro h j x y hx hy;rcases h j x y hx hy with h1|h1<;>simp[e2e,h1]
theorem c12{n m:Nat}{p q:Cb}(hp:p.sh n m)(hq:q.sh n m):(a3h p q).all=List.zipWith min p.all q.all:=by unfold Cb.all a3h;rw[List.zipWith_append (by rw[hp.ins,hq.ins])]
theorem c5h{a b:List Nat}{j z:Nat}(h:(List.zipWith min a b)[j]?=some z):∃x y,a[j]?=some x∧b[j]?=some y∧z=min x y:=by
 rw[List.getElem?_zipWith]at h;cases ha:a[j]? with
 |none=>rw[ha]at h;simp at h
 |some x=>
  cases hb:b[j]? with
  |none=>rw[ha,hb]at h;simp at h
  |some y=>rw[ha,hb]at h;simp at h;exact⟨x,y,rfl,rfl,h.symm⟩
theorem e03{n m:Nat}{p q:Cb}(hp:p.sh n m)(hq:q.sh n m){j x:Nat}(h:p.all[j]?=some x):∃y,q.all[j]?=some y:=by have:=(List.getElem?_eq_some_iff.1 h).1;refine⟨_,z9e (by rw[c1y]at this⊢;unfold Cb.n at this⊢;rw[hp.ins,hp.sts]at this;rw[hq.ins,hq.sts];exact this)⟩
theorem b88{n m:Nat}{p:Cb}(hp:p.sh n m){j x:Nat}(h:p.all[j]?=some x):x≤2:=hp.ok.2 x (List.mem_of_getElem? h)
theorem d1f(p:Cb):c86 p (a5f p)=true:=b77.2 λj x y hx hy=>by rw[show(a5f p).all=p.all from rfl,hx]at hy;injection hy with hy;exact .inr hy
theorem d1h{n m:Nat}{r q p:Cb}(hr:r.sh n m)(hq:q.sh n m)(hp:p.sh n m)(h:c86 r q=true)(hc:a43 p q=true):c86 r (a3h q p)=true:=by rw[b77]at h⊢;rw[b1q]at hc;intro j x z hx hz;rw[c12 hq hp]at hz;obtain⟨a,b,ha,hb,rfl⟩:=c5h hz;have h1:=h j x a hx ha;have h2:=hc j b a hb ha;have h3:=b88 hr hx;have h4:=b88 hq ha;have h5:=b88 hp hb;omega
theorem c85{n m:Nat}{q p:Cb}(hq:q.sh n m)(hp:p.sh n m)(hc:a43 p q=true):c86 p (a3h q p)=true:=by
 rw[b77];rw[b1q]at hc;intro j x z hx hz;rw[c12 hq hp]at hz;obtain⟨a,b,ha,hb,rfl⟩:=c5h hz;rw[hb]at hx;injection hx with hx
 have h2:=hc j b a hb ha;have h4:=b88 hq ha;have h5:=b88 hp hb;omega
theorem b52{n m:Nat}{y q p:Cb}(hy:y.sh n m)(hq:q.sh n m)(hp:p.sh n m)(hc:a43 p q=true)(h:a43 y q=false):a43 y (a3h q p)=false:=by
 cases h1:a43 y (a3h q p)with
 |false=>rfl
 |true=>
  rw[b1q]at h1 hc;have:a43 y q=true:=b1q.2 λj a b ha hb=>by obtain⟨c,hcj⟩:=e03 hq hp hb;have h2:=h1 j a (min b c) ha (by rw[c12 hq hp,List.getElem?_zipWith,hb,hcj]);have h3:=hc j c b hcj hb;have h4:=b88 hq hb;have h5:=b88 hp hcj;have h6:=b88 hy ha;omega
  rw[h]at this;cases this
structure PInv(n m:Nat)(ps:List Cb)(i:Nat)(s:List Cb×List (List Nat)):Prop where
 pw:∀(a b:Nat) (x y:Cb),a<b→s.1[a]?=some x→s.1[b]?=some y→a43 y x=false
 cov:∀(k:Nat) (g:List Nat) (o:Cb) (t:Nat),s.2[k]?=some g→s.1[k]?=some o→t∈g→∃p,ps[t]?=some p∧c86 p o=true
theorem b4c{f:Cb→Bool}{l:List Cb}(h:l.findIdx? f=none){a:Nat}{x:Cb}(hx:l[a]?=some x):f x=false:=by rw[List.findIdx?_eq_none_iff]at h;exact h x (List.mem_of_getElem? hx)
theorem PInv.step{n m i:Nat}{ps:List Cb}{s:List Cb×List (List Nat)}{p:Cb}(hps:∀p∈ps,p.sh n m)(hM:MInv n m i s)(h:PInv n m ps i s)(hp:ps[i]?=some p):PInv n m ps (i+1) (a9x s i p):=by
 have hpS:=hps p (List.mem_of_getElem? hp);unfold a9x;split
 ·rename_i hn;have hat:∀(b:Nat) (y:Cb),(s.1++[a5f p])[b]?=some y→(b=s.1.length∧y=a5f p)∨s.1[b]?=some y:=by
   intro b y hy;by_cases hb:b<s.1.length
   ·rw[List.getElem?_append_left hb]at hy;exact .inr hy
   ·have hl:=(List.getElem?_eq_some_iff.1 hy).1;simp only[List.length_append,List.length_singleton]at hl;obtain rfl:b=s.1.length:=by omega
    simp at hy;exact .inl ⟨rfl,hy.symm⟩
  refine⟨λa b x y hab hx hy=>?_,λk g o t hg ho ht=>?_⟩
  ·dsimp only at hx hy;rcases hat b y hy with ⟨rfl,rfl⟩|hy
   ·rcases hat a x hx with ⟨rfl,rfl⟩|hx
    ·omega
    ·exact b4c hn hx
   ·rcases hat a x hx with ⟨rfl,rfl⟩|hx
    ·have:=(List.getElem?_eq_some_iff.1 hy).1;omega
    ·exact h.pw a b x y hab hx hy
  ·dsimp only at hg ho;rcases hat k o ho with ⟨rfl,rfl⟩|ho
   ·rw[hM.len]at hg;simp at hg;subst hg;simp at ht;subst ht;exact⟨p,hp,d1f p⟩
   ·have hk:=(List.getElem?_eq_some_iff.1 ho).1;rw[hM.len]at hk;rw[List.getElem?_append_left hk]at hg;exact h.cov k g o t hg ho ht
 ·rename_i k hk;obtain⟨hkl,hkc,_⟩:=List.findIdx?_eq_some_iff_getElem.1 hk;obtain⟨q,hq⟩:∃q,s.1[k]?=some q:=⟨_,z9e hkl⟩
  have hqe:s.1[k]=q:=(List.getElem?_eq_some_iff.1 hq).2;rw[hqe]at hkc;have hqS:=hM.sh q (List.mem_of_getElem? hq);have hk2:k<s.2.length:=by rw[←hM.len];exact hkl
  obtain⟨g0,hg0⟩:∃g,s.2[k]?=some g:=⟨_,z9e hk2⟩
  simp only[List.getD_eq_getElem?_getD,hq,hg0,Option.getD_some];have hat:∀(b:Nat) (y:Cb),(s.1.set k (a3h q p))[b]?=some y→(b=k∧y=a3h q p)∨(b≠k∧s.1[b]?=some y):=by
   intro b y hy;by_cases hb:k=b
   ·subst hb;rw[List.getElem?_set_self hkl]at hy;injection hy with hy
    exact .inl ⟨rfl,hy.symm⟩
   ·rw[List.getElem?_set_ne hb]at hy;exact .inr ⟨Ne.symm hb,hy⟩
  refine⟨λa b x y hab hx hy=>?_,λk' g o t hg ho ht=>?_⟩
  ·dsimp only at hx hy;rcases hat b y hy with ⟨rfl,rfl⟩|⟨_,hy2⟩
   ·rcases hat a x hx with ⟨rfl,rfl⟩|⟨_,hx⟩
    ·omega
    ·have hxS:=hM.sh x (List.mem_of_getElem? hx);have h1:=h.pw a b x q hab hx hq;have h2:a43 x q=false:=by rw[a93 (hxS.two hqS)];exact h1
     have h3:=b52 hxS hqS hpS hkc h2;rw[a93 ((c13 hqS hpS).two hxS)];exact h3
   ·have hyS:=hM.sh y (List.mem_of_getElem? hy2);rcases hat a x hx with ⟨rfl,rfl⟩|⟨_,hx⟩
    ·exact b52 hyS hqS hpS hkc (h.pw a b q y hab hq hy2)
    ·exact h.pw a b x y hab hx hy2
  ·dsimp only at hg ho;rcases hat k' o ho with ⟨rfl,rfl⟩|⟨hne,ho⟩
   ·rw[List.getElem?_set_self hk2]at hg;injection hg with hg
    subst hg;rcases List.mem_append.1 ht with ht|ht
    ·obtain⟨r,hr,hc⟩:=h.cov _ g0 q t hg0 hq ht;exact⟨r,hr,d1h (hps r (List.mem_of_getElem? hr)) hqS hpS hc hkc⟩
    ·simp at ht;subst ht;exact⟨p,hp,c85 hqS hpS hkc⟩
   ·rw[List.getElem?_set_ne (Ne.symm hne)]at hg;exact h.cov k' g o t hg ho ht
theorem b2o{n m:Nat}{ps:List Cb}(h:∀p∈ps,p.sh n m):∀i,PInv n m ps i (a50 ps i)
 |0=>⟨λa b x y _ hx=>by simp[a50]at hx,λk g o t hg=>by simp[a50]at hg⟩
 |i+1=>by
  have ih:=b2o h i;have hM:=b1h h i;cases hp:ps[i]? with
  |none=>
   have e:a50 ps (i+1)=a50 ps i:=by simp only[a50,hp]
   rw[e];exact⟨ih.pw,ih.cov⟩
  |some p=>rw[a8n hp];exact ih.step h hM hp
theorem b53{n m:Nat}{ps:List Cb}(h:∀p∈ps,p.sh n m)(i:Nat):∀j,j≤(a50 ps i).1.length→(a50 (a50 ps i).1 j).1=((a50 ps i).1.take j).map a5f
 |0,_=>rfl
 |j+1,hj=>by
  have ih:=b53 h i j (by omega);have hP:=(b2o h i).pw;generalize(a50 ps i).1=outs at *;obtain⟨p,hp⟩:∃p,outs[j]?=some p:=⟨_,z9e hj⟩
  rw[a8n hp];have hn:(a50 outs j).1.findIdx? (a43 p)=none:=by
   rw[ih,List.findIdx?_eq_none_iff];intro x hx;obtain⟨y,hy,rfl⟩:=List.mem_map.1 hx;obtain⟨a,ha⟩:=List.mem_iff_getElem?.1 hy;have hal:a<j:=by have:=(List.getElem?_eq_some_iff.1 ha).1;simp at this;omega
   rw[List.getElem?_take_of_lt hal]at ha;exact hP a j y p hal ha hp
  unfold a9x;simp only[hn];rw[ih,List.take_add_one,hp];simp
def wstep(s:List Cb×List (List Nat))(i:Nat)(p:Cb):List Cb×List (List Nat):=match s.1.findIdx? (λw=>a43 w p)with
 |none=>(s.1++[p],s.2++[[i]])
 |some k=>(s.1.set k (a3h (s.1.getD k p) p),s.2.set k (s.2.getD k []++[i]))
def b1w(ps:List Cb):Nat→List Cb×List (List Nat)
 |0=>([],[])
 |i+1=>match ps[i]? with
  |some p=>wstep (b1w ps i) i p
  |none=>b1w ps i
theorem b1v{ps:List Cb}{i:Nat}{p:Cb}(h:ps[i]?=some p):b1w ps (i+1)=wstep (b1w ps i) i p:=by simp only[b1w,h]
theorem MInv.wstep{n m i:Nat}{s:List Cb×List (List Nat)}{p:Cb}(h:MInv n m i s)(hp:p.sh n m):MInv n m (i+1) (wstep s i p):=by
 unfold QInst.wstep;split
 ·refine⟨by simp[h.len],by simp;exact h.le,λq hq=>?_,λg hg=>?_⟩
  ·rcases List.mem_append.1 hq with hq|hq
   ·exact h.sh q hq
   ·simp at hq;subst hq;exact hp
  ·rcases List.mem_append.1 hg with hg|hg
   ·have:=h.ne g hg;exact⟨this.1,by omega⟩
   ·simp at hg;subst hg;exact⟨by simp,by simp⟩
 ·rename_i k hk;have hkl:=(List.findIdx?_eq_some_iff_getElem.1 hk).1;refine⟨by simp[h.len],by simp;have:=h.le;omega,λq hq=>?_,λg hg=>?_⟩
  ·rcases List.mem_or_eq_of_mem_set hq with hq|rfl
   ·exact h.sh q hq
   ·refine c13 ?_ hp;rw[List.getD_eq_getElem?_getD,z9e hkl];exact h.sh _ (List.getElem_mem hkl)
  ·rcases List.mem_or_eq_of_mem_set hg with hg|rfl
   ·have:=h.ne g hg;exact⟨this.1,by omega⟩
   ·refine⟨by simp,?_⟩;have hk2:k<s.2.length:=by rw[←h.len];exact hkl
    rw[List.getD_eq_getElem?_getD,z9e hk2];have:=(h.ne _ (List.getElem_mem hk2)).2;simp;omega
theorem b60{n m:Nat}{ps:List Cb}(h:∀p∈ps,p.sh n m):∀i,MInv n m i (b1w ps i)
 |0=>⟨rfl,Nat.le_refl _,λq hq=>by simp[b1w]at hq,λg hg=>by simp[b1w]at hg⟩
 |i+1=>by
  have ih:=b60 h i;cases hp:ps[i]? with
  |none=>
   have e:b1w ps (i+1)=b1w ps i:=by simp only[b1w,hp]
   rw[e];exact⟨ih.len,by have:=ih.le;omega,ih.sh,λg hg=>⟨(ih.ne g hg).1,by have:=(ih.ne g hg).2;omega⟩⟩
  |some p=>rw[b1v hp];exact ih.wstep (h p (List.mem_of_getElem? hp))
def nz(p:Cb):Cb:=⟨none,p.ins,none,p.sts⟩
theorem d3s{p q:Cb}(h:nz p=nz q):p.ins=q.ins∧p.sts=q.sts:=by unfold nz at h;injection h with _ h1 _ h2;exact⟨h1,h2⟩
theorem c7t(p:Cb)(l:List Cb):l.findIdx? (a43 p)=(l.map nz).findIdx? (a43 p):=by rw[List.findIdx?_map];rfl
theorem b9g{n m:Nat}{p:Cb}(hp:p.sh n m):∀{l:List Cb},(∀q∈l,q.sh n m)→l.findIdx? (λw=>a43 w p)=l.findIdx? (a43 p)
 | [],_=>rfl
 |a::l,h=>by have ih:=b9g hp (l:=l) λq hq=>h q (by simp[hq]);have e:a43 a p=a43 p a:=a93 ((h a (by simp)).two hp);simp only[List.findIdx?_cons,e,ih]
theorem e13{a b p:Cb}(h:nz a=nz b):nz (a3h a p)=nz (a3h b p):=by obtain⟨h1,h2⟩:=d3s h;unfold nz a3h;simp only[h1,h2]
theorem c2e{n m:Nat}{ps:List Cb}(h:∀p∈ps,p.sh n m):∀i,(a50 ps i).1.map nz=(b1w ps i).1.map nz∧(a50 ps i).2=(b1w ps i).2
 |0=>⟨rfl,rfl⟩
 |i+1=>by
  obtain⟨h1,h2⟩:=c2e h i;cases hp:ps[i]? with
  |none=>simp only[a50,b1w,hp];exact⟨h1,h2⟩
  |some p=>
   have hpS:=h p (List.mem_of_getElem? hp);rw[a8n hp,b1v hp];have hW:=b60 h i;have hf:(a50 ps i).1.findIdx? (a43 p)=(b1w ps i).1.findIdx? (λw=>a43 w p):=by rw[b9g hpS hW.sh,c7t,h1,←c7t]
   unfold a9x wstep;rw[←hf];cases hfi:(a50 ps i).1.findIdx? (a43 p)with
   |none=>exact⟨by simp only[List.map_append,h1];rfl,by simp only[h2]⟩
   |some k=>
    refine⟨?_,by simp only[h2]⟩;simp only[List.map_set,h1];have:nz ((a50 ps i).1.getD k p)=nz ((b1w ps i).1.getD k p):=by have:=congrArg (λl=>(l:List Cb)[k]?.getD (nz p)) h1;simp only[List.getElem?_map]at this;rw[List.getD_eq_getElem?_getD,List.getD_eq_getElem?_getD];cases ha:(a50 ps i).1[k]?<;>cases hb:(b1w ps i).1[k]?<;>rw[ha,hb]at this<;>simpa using this
    rw[e13 this]
theorem e9u{H L:a04}{a:Nat}{o:Option AObj}:a01 (H.set a o++L) H.length=a01 L 0:=a1w 0
theorem e1p{H L:a04}{a a':Nat}{o o':Option AObj}:a01 ((H.set a o).set a' o'++L) H.length=a01 L 0:=hS2 0
def cW{α:Type}:List α→Option (Option Nat)|[]=>none|_=>some none
def cL{α:Type}:List α→Option (Option Nat)|[]=>none|_::r=>some (some (r.length+1))
theorem d58(ps:List Cb):e0d ps=sl (cW ps) (ps.map Cb.cells):=by cases ps<;>rfl
theorem d59(ps:List Cb):e0e ps=sl (cL ps) (ps.map Cb.cells):=by cases ps<;>rfl
theorem d5a(gs:List (List Nat)):e0f gs=sl (cL gs) (gs.map λg=>[lsV g]):=by cases gs<;>rfl
theorem d3u(g:List Nat):lsV g=sl (cL g) (g.map a12):=by cases g<;>rfl
def d3o(g:List Nat):AV:=match g with
 | []=>.nilslice
 | [x]=>.islice [a12 x] (some 1)
 |g=>.islice (g.map a12) none
theorem d5j(gs:List (List Nat)):((foG gs).mapIdx λj f=>[slF (cpG gs j) f])=gs.map λg=>[d3o g]:=by
 apply List.ext_getElem?;intro j;rw[List.getElem?_mapIdx,List.getElem?_map];cases hgj:gs[j]? with
 |none=>simp[foG,hgj]
 |some g=>
  rw[b3b hgj];simp only[Option.map_some,cpG,hgj];cases g with
  |nil=>rfl
  |cons x t=>cases t<;>rfl
theorem e1q{outs:List Cb}{gs:List (List Nat)}{H:a04}{V1 V2:AV}(hl:outs.length=gs.length)(h:GS outs gs H V1 V2) :
 a23 0 true (a3v (a01 H) 0 12) V1=some (sl (cW outs) (outs.map Cb.cells))∧a23 0 true (a3v (a01 H) 0 12) V2=some (sl (cW gs) (gs.map λg=>[d3o g])):=by
 cases h with
 |nil h1 h2=>subst h1 h2;exact⟨rfl,rfl⟩
 |some _ w b ids h1 hG=>
  constructor
  ·have ht:List.take outs.length (outs.map Cb.cells)=outs.map Cb.cells:=List.take_of_length_le (by simp);have hf:=a3p (m:=0) (d:=a3v (a01 H) 0 11) (b73 outs);have ho:=hG.out;have e:sl (cW outs) (outs.map Cb.cells) = .islice (outs.map Cb.cells) none:=by
    cases outs with
    |nil=>exact absurd rfl h1
    |cons a r=>rfl
   rw[e];simp+decide only[go_sem,ho,ht,hf,List.length_map]<;>rfl
  ·have z:=hG.two.frz none;rw[a33,d5j]at z;have e:sl (cW gs) (gs.map λg=>[d3o g]) = .islice (gs.map λg=>[d3o g]) none:=by
    cases gs with
    |nil=>exact absurd (List.eq_nil_of_length_eq_zero hl) h1
    |cons a r=>rfl
   rw[e];exact z
theorem c0r{d:Bool}(H:a04)(c:Option (Option Nat))(ls:List Bl)(hb:∀r∈ls,∀x∈r.l,x<256)(hl:ls.length≤100)(z:Nat)(hz:z<256) :
 a0d L.env d (sem L.env Mf) (.func (.func 70) [] []) [sl c (ls.map Bl.enc),.int .u8 z] H=some (sl (cW (ls.map λr=>shC (z%4) (z/4%3) r.l)) ((ls.map λr=>shC (z%4) (z/4%3) r.l).map Cb.cells),H,[]):=by
 have h:=c5u c ls hb hl z hz;rw[d58]at h;exact a07 (by kernel_rfl) (by kernel_rfl) rfl (by simp[a0a,a64,refs]) h (a64 _ _)
theorem c6e(H:a04)(c:Option (Option Nat))(ps:List Cb)(n m:Nat)(h:∀p∈ps,p.sh n m)(hl:ps.length≤100):a0d L.env false (sem L.env Mf) (.func (.func 11) [] []) [sl c (ps.map Cb.cells)] H =
 some (.tuple [sl (cL (a50 ps ps.length).1) ((a50 ps ps.length).1.map Cb.cells),sl (cL (a50 ps ps.length).2) ((a50 ps ps.length).2.map λg=>[lsV g]),.int .i64 0],H,[]):=by
 have:=c0z H c ps n m h hl;rw[d59,d5a]at this;exact this
theorem c6s(c:Option (Option Nat))(ls:List Bl)(hb:∀r∈ls,∀x∈r.l,x<256)(z:Nat)(hz:z<256):sem L.env Mf 28 [sl c (ls.map Bl.enc),.int .u8 z] []=some (.bool true,[]):=by
 have hlv:=λH=>a5q (d:=false) H
 suffices hs:∃r:AV×a04,(r=(.bool true,[]))∧sem L.env Mf 28 [sl c (ls.map Bl.enc),.int .u8 z] []=some r by obtain⟨r,rfl,h3⟩:=hs;exact h3
 by_cases hbig:12<ls.length
 ·have c0:(12:Int)<ls.length:=by omega
  (refine svE Tryz.f28 ?_;simp only[Tryz.f28,gS])
  (repeat first|simp only[ww]|(apply xa;simp+decide only[go_sem,List.length_map,c0,hlv];rfl;kernel_rfl))
  refine a3q (vs:=[.bool true]) (r:=(_,_)) (by simp+decide only[go_sem]) ?_ rfl;simp+decide only[go_sem,a0j]<;>rfl
 have c0:¬(12:Int)<ls.length:=by omega
 have hsc:=c0r (d:=false) [] c ls hb (by omega) z hz;have hnm:z%4+z/4%3≤100:=by omega
 have hps:∀p∈(ls.map λr=>shC (z%4) (z/4%3) r.l),p.sh (z%4) (z/4%3):=by intro p hp;obtain⟨r,_,rfl⟩:=List.mem_map.1 hp;exact e04 _ _ hnm _
 have hpl:(ls.map λr=>shC (z%4) (z/4%3) r.l).length≤12:=by simp;omega
 generalize(ls.map λr=>shC (z%4) (z/4%3) r.l)=ps at hsc hps hpl;generalize z%4=n at hps hnm;generalize z/4%3=m at hps hnm;have hpm:=c6e [] (cW ps) ps n m hps (by omega);have hMI:=b1h hps ps.length;have hPI:=b2o hps ps.length;have hAG:=b53 hps ps.length;obtain⟨hRS1,hRS2⟩:=c2e hps ps.length;have hWI:=λi=>b60 hps i;generalize hmr:a50 ps ps.length=st at hpm hMI hPI hAG hRS1 hRS2;obtain⟨outs,gs⟩:=st;dsimp only at hpm hRS1 hRS2 hAG;have hlen:=hMI.len;have hole:=hMI.le;dsimp only at hlen hole;have e0:(outs.length:Int)=gs.length:=by omega
 have e0':((outs.length:Int)=(gs.length:Int))=True:=eq_true e0
 (refine svE Tryz.f28 ?_;simp only[Tryz.f28,gS])
 (repeat first|simp only[ww]|(apply xa;simp+decide only[go_sem,List.length_map,c0,hsc,hpm,e0,hlen];rfl;kernel_rfl))
 refine c27 kp28_0 rfl (λq F H1=>∃(i:Nat) (V1 V2:AV),q=ps.length-i∧i≤ps.length∧F=[(5,sl (cW ps) (ps.map Cb.cells)),(6,sl (cL outs) (outs.map Cb.cells)),(7,sl (cL gs) (gs.map λg=>[lsV g])),(9,V1),(10,V2),(11,.int .i64 i),(1000000,.junk)]∧GS (b1w ps i).1 (b1w ps i).2 H1 V1 V2) ps.length ?_ ?_
 ·refine⟨_,_,?_,0,.nilslice,.nilslice,rfl,Nat.zero_le _,rfl,.nil rfl rfl⟩
  (simp+decide only[go_sem,a03,a00]<;>rfl)<;>rfl
 ·rintro q F H1 ⟨i,V1,V2,rfl,hi,rfl,hGS⟩
  by_cases hlt:i<ps.length
  ·obtain⟨p,hp⟩:∃p,ps[i]?=some p:=⟨_,z9e hlt⟩
   have hs:=hps p (List.mem_of_getElem? hp);have hI:=hWI i;have hms:=b1v hp;have hg:(ps.map Cb.cells)[i]?=some [sl p.ci (p.ins.map u8R),sl p.cs (p.sts.map u8R)]:=by rw[List.getElem?_map,hp];rfl
   have c1:(i:Int)<ps.length:=by omega
   have hw:=wI1 (n:=i) (by omega);have hPC:p.cells=[sl p.ci (p.ins.map u8R),sl p.cs (p.sts.map u8R)]:=rfl;generalize hst:b1w ps i=st at *;obtain⟨ws,qs⟩:=st;dsimp only at hGS hI;have hIl:=hI.len;have hIle:=hI.le;dsimp only at hIl hIle
   (repeat first|simp only[ww]|(apply xa;simp+decide only[go_sem,c1,List.length_map];rfl;kernel_rfl))
   refine a0t kp28_2 (λq F H2=>∃(k:Nat) (at':Int) (V1 V2:AV),q=ws.length+1-k∧k≤ws.length∧F=[(5,sl (cW ps) (ps.map Cb.cells)),(6,sl (cL outs) (outs.map Cb.cells)),(7,sl (cL gs) (gs.map λg=>[lsV g])),(9,V1),(10,V2),(11,.int .i64 i),(12,.int .i64 at'),(13,.int .i64 k)]∧GS ws qs H2 V1 V2∧((at' = -1∧∀(j:Nat) (x:Cb),j<k→ws[j]?=some x→a43 x p=false)∨∃k0:Nat,at'=k0∧ws.findIdx? (λw=>a43 w p)=some k0)) (ws.length+1) ?_ ?_
   ·cases hGS with
    |nil h1 h2=>
     refine⟨_,?_,?_,0,-1,.nilslice,.nilslice,rfl,Nat.zero_le _,rfl,?_,.inl ⟨rfl,λj x hj=>absurd hj (Nat.not_lt_zero j)⟩⟩
     rotate_left
     ·(simp+decide only[go_sem,a03,a00]<;>rfl)<;>rfl
     ·exact .nil h1 h2
    |some _ w b ids h1 hG=>
     refine hG.head ?_ ?_ ?_ ?_ (by rw[a33];omega) ?_
     ·intro x hx;simp+decide only[go_sem]at hx;simpa using hx
     ·simp+decide only[go_sem]<;>simp
     ·simp+decide only[go_sem]<;>simp
     ·simp+decide only[go_sem]<;>simp
     ·intro π w' b' ids' H2 hw' hb' hG';refine⟨0,-1,.slice w' 0 ws.length none,.slice b' 0 qs.length none,rfl,Nat.zero_le _,?_,.some _ _ _ _ h1 hG',.inl ⟨rfl,λj x hj=>absurd hj (Nat.not_lt_zero j)⟩⟩;simp+decide only[go_sem,hw',hb']<;>rfl
   ·rintro q F H2 ⟨k,at',V1,V2,rfl,hk,rfl,hGS,hat⟩
    cases hGS with
    |nil h1 h2=>
     subst h1 h2;have hk0:k=0:=by simpa using hk
     subst hk0;rcases hat with ⟨rfl,_⟩|⟨k0,_,hk0⟩
     ·have hn0:wstep ([],[]) i p=([p],[[i]]):=rfl;have e1:¬((0:Nat):Int)<0:=by omega
      (repeat first|simp only[ww]|(apply xa;simp+decide only[go_sem,e1,c1,hlt,hg,hw,List.length_map];rfl;kernel_rfl))
      have hG:=Gw.first (H1:=[some (.row 2 [p.cells]),some (.row 2 [p.cells]),some (.row 1 [[.int .i64 i]]),some (.row 1 [[.slice 2 0 1 (some 1)]]),some (.row 1 [[.slice 2 0 1 (some 1)]])])
       (w':=1) (b':=4) (x':=2) (x:=p.cells) (z:=a12 i) (q:=some 1) (by simpa[a0a,refs,Cb.enc]using a1g p) rfl rfl rfl rfl (by omega) (by omega) (by omega)
      refine a0b (ps.length-(i+1)) (by omega) ?_;refine hG.head ?_ ?_ ?_ ?_ (by simp) ?_
      ·intro x hx;simp+decide only[go_sem]at hx;simpa using hx
      ·simp+decide only[go_sem]<;>simp
      ·simp+decide only[go_sem]<;>simp
      ·simp+decide only[go_sem]<;>simp
      ·intro π w' b' ids' H1 hw' hb' hG';refine⟨i+1,.slice w' 0 1 none,.slice b' 0 1 none,rfl,hlt,?_,?_⟩
       ·simp+decide only[go_sem,hw',hb']<;>rfl
       ·rw[hms,hn0];exact .some H1 w' b' ids' (by simp) (b96 hG' (λj hj=>by
         have:j=0:=by simpa[foG]using hj
         subst this;rfl))
     ·simp at hk0
    |some _ w b ids h1 hG=>
     have hop:0<ws.length:=List.length_pos_iff.2 h1;have hwl:=a0l hG.out;have hbl:=a0l hG.two.top;have hwo:=hG.out;have hbo:=hG.two.top;have hwb:=eq_false hG.wb;have hbw:=eq_false (Ne.symm hG.wb);have hrl:(a25 ids (cpG qs) (foG qs)).length=qs.length:=by rw[a3l,a33]
     rcases hat with ⟨rfl,hbef⟩|⟨k0,rfl,hfi⟩
     ·by_cases hkl:k<ws.length
      ·obtain⟨x,hx⟩:∃x,ws[k]?=some x:=⟨_,z9e hkl⟩
       have hxs:=hI.sh x (List.mem_of_getElem? hx);have e1:(k:Int)<ws.length:=by omega
       have hkw:=wI1 (n:=k) (by omega);have hqg:(ws.map Cb.cells)[k]?=some [sl x.ci (x.ins.map u8R),sl x.cs (x.sts.map u8R)]:=by rw[List.getElem?_map,hx];rfl
       have hcm:∀H,a0d L.env true (sem L.env Mf) (.func (.func 38) [] []) [.agg [sl x.ci (x.ins.map u8R),sl x.cs (x.sts.map u8R)],.agg [sl p.ci (p.ins.map u8R),sl p.cs (p.sts.map u8R)]] H=some (.bool (a43 x p),H,[]):=λH=>a84 H x p (hxs.two hs);have hfix:∀(a':Int),((a' = -1∧∀(j:Nat) (x:Cb),j<k+1→ws[j]?=some x→a43 x p=false)∨∃k0:Nat,a'=k0∧ws.findIdx? (λw=>a43 w p)=some k0)→
        ∃F1 H3,gcD 0 [5,6,7,9,10,11,12,13] [(5,sl (cW ps) (ps.map Cb.cells)),(6,sl (cL outs) (outs.map Cb.cells)),(7,sl (cL gs) (gs.map λg=>[lsV g])),(9,.slice w 0 ws.length none),(10,.slice b 0 qs.length none),(11,.int .i64 i),(12,.int .i64 a'),(13,.int .i64 (k+1:Nat))] H2=some (F1,H3)∧
         ∃(k':Nat) (at':Int) (V1 V2:AV),ws.length+1-(k+1)=ws.length+1-k'∧k'≤ws.length∧F1=[(5,sl (cW ps) (ps.map Cb.cells)),(6,sl (cL outs) (outs.map Cb.cells)),(7,sl (cL gs) (gs.map λg=>[lsV g])),(9,V1),(10,V2),(11,.int .i64 i),(12,.int .i64 at'),(13,.int .i64 k')]∧GS ws qs H3 V1 V2∧((at' = -1∧∀(j:Nat) (x:Cb),j<k'→ws[j]?=some x→a43 x p=false)∨∃k0:Nat,at'=k0∧ws.findIdx? (λw=>a43 w p)=some k0):=by
        intro a' ha';refine hG.head ?_ ?_ ?_ ?_ (by rw[a33];omega) ?_
        ·intro x hx;simp+decide only[go_sem]at hx;simpa using hx
        ·simp+decide only[go_sem]<;>simp
        ·simp+decide only[go_sem]<;>simp
        ·simp+decide only[go_sem]<;>simp
        ·intro π w' b' ids' H3 hw' hb' hG';refine⟨k+1,a',.slice w' 0 ws.length none,.slice b' 0 qs.length none,rfl,hkl,?_,.some _ _ _ _ h1 hG',ha'⟩;simp+decide only[go_sem,hw',hb']<;>rfl
       by_cases hc:a43 x p=true
       ·rw[hc]at hcm
        (repeat first|simp only[ww]|(apply xa;simp+decide only[go_sem,e1,List.length_map];rfl;kernel_rfl))
        (repeat first|simp only[ww]|((with_reducible first|apply xs3|apply xI);(·simp+decide only[go_sem,hwl,hbl,hwo,hbo,hwb,hbw,hlt,hkl,hqg,hg,hcm,hkw,List.length_map];rfl);first|with_reducible apply xT|with_reducible apply xF|(·repeat' (first|exact b1i|exact b1c|refine a8o ?_ ?_|refine b1b (by simp only[List.length_cons,List.length_nil];decide+kernel) ?_|refine b1d (a95 (by simp<;>omega) (by simp<;>omega) (by simp<;>omega)) ?_))))
        obtain⟨F1,H3,g1,g2⟩:=hfix k (.inr ⟨k,rfl,by
         rw[List.findIdx?_eq_some_iff_getElem];refine⟨hkl,?_,λj hj=>?_⟩
         ·rw[(List.getElem?_eq_some_iff.1 hx).2];exact hc
         ·have hjl:j<ws.length:=by omega
          have:=hbef j ws[j] hj (z9e hjl);simp[this]⟩)
        exact a0b (ws.length+1-(k+1)) (by omega) ⟨F1,H3,(a7m (by simp+decide only[go_sem]<;>rfl)).trans g1,g2⟩
       ·have hc:a43 x p=false:=by simpa using hc
        rw[hc]at hcm
        (repeat first|simp only[ww]|(apply xa;simp+decide only[go_sem,e1,List.length_map];rfl;kernel_rfl))
        (repeat first|simp only[ww]|((with_reducible first|apply xs3|apply xI);(·simp+decide only[go_sem,hwl,hbl,hwo,hbo,hwb,hbw,hlt,hkl,hqg,hg,hcm,hkw,List.length_map];rfl);first|with_reducible apply xT|with_reducible apply xF|(·repeat' (first|exact b1i|exact b1c|refine a8o ?_ ?_|refine b1b (by simp only[List.length_cons,List.length_nil];decide+kernel) ?_|refine b1d (a95 (by simp<;>omega) (by simp<;>omega) (by simp<;>omega)) ?_))))
        obtain⟨F1,H3,g1,g2⟩:=hfix (-1) (.inl ⟨rfl,λj y hj hy=>by
         rcases Nat.lt_succ_iff_lt_or_eq.1 hj with h|rfl
         ·exact hbef j y h hy
         ·rw[hx]at hy;injection hy with hy;rw[←hy];exact hc⟩)
        exact a0b (ws.length+1-(k+1)) (by omega) ⟨F1,H3,(a7m (by simp+decide only[go_sem]<;>rfl)).trans g1,g2⟩
      ·obtain rfl:k=ws.length:=by omega
       have e1:¬(ws.length:Int)<ws.length:=by omega
       have hfi:ws.findIdx? (λw=>a43 w p)=none:=by rw[List.findIdx?_eq_none_iff];intro y hy;obtain⟨j,hj⟩:=List.mem_iff_getElem?.1 hy;exact hbef j y (List.getElem?_eq_some_iff.1 hj).1 hj
       have hn0:wstep (ws,qs) i p=(ws++[p],qs++[[i]]):=by unfold wstep;simp only[hfi]
       have r1:ws.length+1≤1000000000:=by omega
       have r2:qs.length+1≤1000000000:=by omega
       (repeat first|simp only[ww]|(apply xa;simp+decide only[go_sem,e1,c1,hlt,hg,hw,hwl,hbl,hwo,hbo,hwb,hbw,hrl,r1,r2,a4p,List.length_set,List.length_map,a1w,a1r,a1s,a0x,a41,a56,a55,a3n,a2m,List.append_assoc,List.cons_append,List.nil_append];rfl;kernel_rfl))
       refine a0b (ps.length-(i+1)) (by omega) ?_;refine(hG.new (w':=H2.length+1) (b':=H2.length+4) (x':=H2.length+2) (x:=p.cells) (z:=a12 i) (q:=some 1) (by simpa[a0a,refs,Cb.enc]using a1g p) rfl (by rw[hS2];rfl) (by rw[hS2];rfl) (by rw[hS2];rfl) (λc hc h2 h3=>lS2 hc h2 h3) (by omega) (by omega) (by omega) (by omega) (by omega) (by omega)).head ?_ ?_ ?_ ?_ (by rw[List.length_append,a33];simp;omega) ?_
       ·intro x hx;simp+decide only[go_sem]at hx;simpa using hx
       ·simp+decide only[go_sem]<;>simp
       ·simp+decide only[go_sem]<;>simp
       ·simp+decide only[go_sem]<;>simp
       ·intro π w' b' ids' H2 hw' hb' hG';refine⟨i+1,.slice w' 0 (ws.length+1) none,.slice b' 0 (qs.length+1) none,rfl,hlt,?_,?_⟩
        ·simp+decide only[go_sem,hw',hb']<;>rfl
        ·rw[hms,hn0];have e1:ws.map Cb.cells++[p.cells]=(ws++[p]).map Cb.cells:=by rw[List.map_append];rfl
         have e2:foG qs++[[a12 i]]=foG (qs++[[i]]):=by unfold foG;rw[List.map_append];rfl
         rw[e1,e2]at hG';have hfin:=GS.some (outs:=ws++[p]) (gs:=qs++[[i]]) H2 w' b' ids' (by simp) (b96 hG' (λj hj=>c84 j (by rw[a33]at hj⊢;simpa using hj)));simpa using hfin
     ·obtain⟨hkl,hkc,_⟩:=List.findIdx?_eq_some_iff_getElem.1 hfi;obtain⟨q,hq⟩:∃q,ws[k0]?=some q:=⟨_,z9e hkl⟩
      have hqe:ws[k0]=q:=(List.getElem?_eq_some_iff.1 hq).2;rw[hqe]at hkc;obtain⟨g,hgk⟩:∃g,qs[k0]?=some g:=⟨_,z9e (by omega)⟩
      have hqs:=hI.sh q (List.mem_of_getElem? hq);have hgne:=(hI.ne g (List.mem_of_getElem? hgk)).1;have hgle:=(hI.ne g (List.mem_of_getElem? hgk)).2;have hn0:wstep (ws,qs) i p=(ws.set k0 (a3h q p),qs.set k0 (g++[i])):=by unfold wstep;simp only[hfi];rw[List.getD_eq_getElem?_getD,hq,List.getD_eq_getElem?_getD,hgk];rfl
      have hk00:¬(k0:Int)<0:=by omega
      have hqg:(ws.map Cb.cells)[k0]?=some [sl q.ci (q.ins.map u8R),sl q.cs (q.sts.map u8R)]:=by rw[List.getElem?_map,hq];rfl
      have hmr:∀H,a0d L.env true (sem L.env Mf) (.func (.func 40) [] []) [.agg [sl q.ci (q.ins.map u8R),sl q.cs (q.sts.map u8R)],.agg [sl p.ci (p.ins.map u8R),sl p.cs (p.sts.map u8R)]] H =
       some (.tuple [.agg [sl (a3h q p).ci ((a3h q p).ins.map u8R),sl (a3h q p).cs ((a3h q p).sts.map u8R)],.int .i64 0],H,[]):=λH=>c2q H q p (hqs.two hs) hkc
      have hfoG:=b3b hgk;have hget0:=a8j (ids:=ids) (cp:=cpG qs) hfoG;have hks:k0<qs.length:=by omega
      have hgm:g.map a12≠[]:=by simpa using hgne
      obtain⟨s1,s2⟩:=hG.two.sub k0 _ hfoG hgm;have s3:=a0l s1;have s4:=hG.wi k0 _ hfoG hgm;have s5:=eq_false s4;have s6:=eq_false (Ne.symm s4);have s7:=eq_false s2;have s8:=eq_false (Ne.symm s2);have hcpn:∀j,j<(foG (qs.set k0 (g++[i]))).length→(if j=k0 then none else cpG qs j)=cpG (qs.set k0 (g++[i])) j:=by
       intro j hj;unfold cpG;rw[List.getElem?_set];by_cases hjk:k0=j
       ·subst hjk;simp only[if_true,hks];cases g with
        |nil=>exact absurd rfl hgne
        |cons x t=>cases t<;>rfl
       ·rw[if_neg (Ne.symm hjk),if_neg hjk]
      have hend:∀(H':a04),Gw H' w b (λi'=>if i'=k0 then H2.length+1 else ids i') (λi'=>if i'=k0 then none else cpG qs i') ((ws.map Cb.cells).set k0 (a3h q p).cells) ((foG qs).set k0 (g.map a12++[a12 i]))→
       ∃F1 H3,gcD 0 [5,6,7,9,10,11,1000000] [(5,sl (cW ps) (ps.map Cb.cells)),(6,sl (cL outs) (outs.map Cb.cells)),(7,sl (cL gs) (gs.map λg=>[lsV g])),(9,.slice w 0 ws.length none),(10,.slice b 0 qs.length none),(11,.int .i64 (i+1:Nat)),(1000000,.junk)] H'=some (F1,H3)∧
        (∃(i':Nat) (V1 V2:AV),ps.length-(i+1)=ps.length-i'∧i'≤ps.length∧F1=[(5,sl (cW ps) (ps.map Cb.cells)),(6,sl (cL outs) (outs.map Cb.cells)),(7,sl (cL gs) (gs.map λg=>[lsV g])),(9,V1),(10,V2),(11,.int .i64 i'),(1000000,.junk)]∧GS (b1w ps i').1 (b1w ps i').2 H3 V1 V2):=by
       intro H' hG';refine hG'.head ?_ ?_ ?_ ?_ (by rw[List.length_set,a33];omega) ?_
       ·intro x hx;simp+decide only[go_sem]at hx;simpa using hx
       ·simp+decide only[go_sem]<;>simp
       ·simp+decide only[go_sem]<;>simp
       ·simp+decide only[go_sem]<;>simp
       ·intro π w' b' ids' H3 hw' hb' hG'';refine⟨i+1,.slice w' 0 ws.length none,.slice b' 0 qs.length none,rfl,hlt,?_,?_⟩
        ·simp+decide only[go_sem,hw',hb']<;>rfl
        ·rw[hms,hn0];have e1:(ws.map Cb.cells).set k0 (a3h q p).cells=(ws.set k0 (a3h q p)).map Cb.cells:=by rw[List.map_set]
         have e2:(foG qs).set k0 (g.map a12++[a12 i])=foG (qs.set k0 (g++[i])):=by unfold foG;rw[List.map_set,List.map_append];rfl
         rw[e1,e2]at hG'';have hfin:=GS.some (outs:=ws.set k0 (a3h q p)) (gs:=qs.set k0 (g++[i])) H3 w' b' ids' (by intro e;exact h1 (by simpa using e)) (b96 hG'' hcpn);simpa using hfin
      have hmc:(a3h q p).cells=[sl (a3h q p).ci ((a3h q p).ins.map u8R),sl (a3h q p).cs ((a3h q p).sts.map u8R)]:=rfl;have hmx:a0a (a3h q p).cells=[]:=by simpa[a0a,refs,Cb.enc]using a1g (a3h q p)
      have hrun:True:=trivial;by_cases e1:(k:Int)<ws.length
      all_goals
       (repeat first|simp only[ww]|(apply xa;simp+decide only[go_sem,e1,hk00,c1,hlt,hg,List.length_map];rfl;kernel_rfl))
       (repeat first|simp only[ww]|((with_reducible first|apply xs3|apply xI);(·simp+decide only[go_sem,hwl,hbl,hwo,hbo,hwb,hbw,hlt,hkl,hqg,hg,hmr,List.length_set,List.length_map,a1w,a1r,a1s,a0x,a41,a56,a55,a3n,a2m,List.append_assoc,List.cons_append,List.nil_append];rfl);first|with_reducible apply xT|with_reducible apply xF|(·repeat' (first|exact b1i|exact b1c|refine a8o ?_ ?_|refine b1b (by simp only[List.length_cons,List.length_nil];decide+kernel) ?_|refine b1d (a95 (by simp<;>omega) (by simp<;>omega) (by simp<;>omega)) ?_))))
       cases g with
       |nil=>exact absurd rfl hgne
       |cons x t=>
        cases t with
        |nil=>
         have hcpk:cpG qs k0=none∨cpG qs k0=some 1:=.inr (by unfold cpG;rw[hgk]);have hcpk:cpG qs k0=some 1:=by unfold cpG;rw[hgk]
         have hget:(a25 ids (cpG qs) (foG qs))[k0]?=some [.slice (ids k0) 0 1 (some 1)]:=by rw[hget0,hcpk];rfl
         have s1:a01 H2 (ids k0)=some (.row 1 [[.int .i64 x]]):=s1;have r3:¬1+1≤1:=by omega
         (repeat first|simp only[ww]|(apply xa;simp+decide only[go_sem,hks,hget,s1,s3,s5,s6,s7,s8,hw,hwl,hbl,hwo,hbo,hwb,hbw,hrl,r3,e9u,e1p,a4p,List.length_set,List.length_map,a1w,a1r,a1s,a0x,a41,a56,a55,a3n,a2m,List.append_assoc,List.cons_append,List.nil_append];rfl;kernel_rfl))
         obtain⟨F1,H3,g1,g2⟩:=hend _ (hG.upd (k:=k0) (n:=H2.length+1) (f:=[x].map a12) (x:=(a3h q p).cells) (z:=a12 i) (H1:=(H2.set w (some (.row 2 ((ws.map Cb.cells).set k0 (a3h q p).cells)))).set b (some (.row 1 ((a25 ids (cpG qs) (foG qs)).set k0 [.slice (H2.length+1) 0 2 none])))++[some (.row 1 [[.int .i64 i]]),some (.row 1 [[.int .i64 x],[.int .i64 i]])]) hfoG hmx rfl (by omega)
          (by rw[a0x (eq_true (by simpa using hwl)),a0q (Ne.symm hG.wb),a1o hwl]) (by rw[a0x (eq_true (by simpa using hbl)),a1o (by simpa using hbl)];rfl) (by rw[hS2];rfl) (λc hc h2 h3 _=>lS2 hc h2 h3))
         exact a0b (ps.length-(i+1)) (by omega) ⟨F1,H3,(a7m (by simp+decide only[go_sem]<;>rfl)).trans g1,g2⟩
        |cons y t=>
         have hcpk:cpG qs k0=none:=by unfold cpG;rw[hgk]
         have hget:(a25 ids (cpG qs) (foG qs))[k0]?=some [.slice (ids k0) 0 (t.length+1+1) none]:=by rw[hget0,hcpk];show some [AV.slice (ids k0) 0 ((a12 y::t.map a12).length+1) none]=_;simp
         have s1':a01 H2 (ids k0)=some (.row 1 ([.int .i64 x]::[.int .i64 y]::t.map a12)):=s1;have r3:t.length+1+1+1≤1000000000:=by simp only[List.length_cons]at hgle;omega
         (repeat first|simp only[ww]|(apply xa;simp+decide only[go_sem,hks,hget,s1',s3,s5,s6,s7,s8,hw,hwl,hbl,hwo,hbo,hwb,hbw,hrl,r3,e9u,e1p,a4p,List.length_set,List.length_map,List.length_cons,a1w,a1r,a1s,a0x,a41,a56,a55,a3n,a2m,List.append_assoc,List.cons_append,List.nil_append];rfl;kernel_rfl))
         obtain⟨F1,H3,g1,g2⟩:=hend _ (hG.upd (k:=k0) (n:=H2.length+1) (f:=(x::y::t).map a12) (x:=(a3h q p).cells) (z:=a12 i) (H1:=((H2.set w (some (.row 2 ((ws.map Cb.cells).set k0 (a3h q p).cells)))).set (ids k0) none).set b (some (.row 1 ((a25 ids (cpG qs) (foG qs)).set k0 [.slice (H2.length+1) 0 (t.length+1+1+1) none])))++[some (.row 1 [[.int .i64 i]]),some (.row 1 ([.int .i64 x]::[.int .i64 y]::(t.map a12++[[.int .i64 i]])))]) hfoG hmx rfl (by omega)
          (by rw[a0x (eq_true (by simpa using hwl)),a0q (Ne.symm hG.wb),a0q s4,a1o hwl]) (by rw[a0x (eq_true (by simpa using hbl)),a1o (by simpa using hbl)];simp) (by rw[hS3];rfl) (λc hc h2 h3 h5=>by rw[a0x (eq_true (by simpa using hc)),a0q (Ne.symm h3),a0q (Ne.symm (h5 (by simp))),a0q (Ne.symm h2)]))
         exact a0b (ps.length-(i+1)) (by omega) ⟨F1,H3,(a7m (by simp+decide only[go_sem]<;>rfl)).trans g1,g2⟩
  ·obtain rfl:i=ps.length:=by omega
   have c1:¬(ps.length:Int)<ps.length:=by omega
   have hI:=hWI ps.length;generalize hst:b1w ps ps.length=st at *;obtain⟨ws,qs⟩:=st;dsimp only at hGS hI hRS1 hRS2;have hIl:=hI.len;dsimp only at hIl;obtain⟨z1,z2⟩:=e1q hIl hGS;clear hst
   (repeat first|simp only[ww]|(apply xa;simp+decide only[go_sem,c1,List.length_map];rfl;kernel_rfl))
   rw[c4p];simp+decide only[go_sem,z1,z2];have hag:=hAG outs.length (Nat.le_refl _);rw[List.take_length]at hag;have hpm2:=c6e [] (cL outs) outs n m hMI.sh (by omega);rw[hag]at hpm2;generalize(a50 outs outs.length).2=ags at hpm2;subst hRS2;have hlw:ws.length=outs.length:=by have:=congrArg List.length hRS1;simpa using this.symm
   (repeat first|simp only[ww]|(apply xa;simp+decide only[go_sem,hpm2,hlw,List.length_map];rfl;kernel_rfl))
   refine a0t kp28_4 (λq F H2=>∃(k:Nat),q=outs.length-k∧k≤outs.length∧F=[(5,sl (cW ps) (ps.map Cb.cells)),(6,sl (cL outs) (outs.map Cb.cells)),(7,sl (cL gs) (gs.map λg=>[lsV g])),(9,sl (cW ws) (ws.map Cb.cells)),(10,sl (cW gs) (gs.map λg=>[d3o g])),(14,sl (cL (outs.map a5f)) ((outs.map a5f).map Cb.cells)),(17,.int .i64 k)]∧H2=[]) outs.length ?_ ?_
   ·refine⟨_,_,?_,0,rfl,Nat.zero_le _,rfl,rfl⟩
    (simp+decide only[go_sem,a03,a00]<;>rfl)<;>rfl
   ·rintro q F H2 ⟨k,rfl,hk,rfl,rfl⟩
    by_cases hkl:k<outs.length
    ·obtain⟨o,ho⟩:∃o,outs[k]?=some o:=⟨_,z9e hkl⟩
     obtain⟨w,hw⟩:∃w,ws[k]?=some w:=⟨_,z9e (by omega)⟩
     have hgl:k<gs.length:=by omega
     have hwl:k<ws.length:=by omega
     obtain⟨g,hg⟩:∃g,gs[k]?=some g:=⟨_,z9e hgl⟩
     have hgne:=(hMI.ne g (List.mem_of_getElem? hg)).1;have hgle:=(hMI.ne g (List.mem_of_getElem? hg)).2;have hos:=hMI.sh o (List.mem_of_getElem? ho);have hon:o.n≤100000:=by unfold Cb.n;rw[hos.ins,hos.sts];omega
     have how:nz o=nz w:=by have:=congrArg (λl=>(l:List Cb)[k]?) hRS1;simpa[ho,hw]using this
     obtain⟨how1,how2⟩:=d3s how;have e1:(k:Int)<outs.length:=by omega
     have hkw:=wI1 (n:=k) (by omega);have hqo:(outs.map Cb.cells)[k]?=some [sl o.ci (o.ins.map u8R),sl o.cs (o.sts.map u8R)]:=by rw[List.getElem?_map,ho];rfl
     have hqw:(ws.map Cb.cells)[k]?=some [sl w.ci (w.ins.map u8R),sl w.cs (w.sts.map u8R)]:=by rw[List.getElem?_map,hw];rfl
     have hqa:((outs.map a5f).map Cb.cells)[k]?=some [sl (a5f o).ci ((a5f o).ins.map u8R),sl (a5f o).cs ((a5f o).sts.map u8R)]:=by rw[List.getElem?_map,List.getElem?_map,ho];rfl
     have hqg:(gs.map λg=>[lsV g])[k]?=some [sl (cL g) (g.map a12)]:=by rw[List.getElem?_map,hg,Option.map_some,d3u]
     obtain⟨cc,hcc⟩:∃cc,d3o g = .islice (g.map a12) cc:=by
      cases g with
      |nil=>exact absurd rfl hgne
      |cons a r=>cases r with
       |nil=>exact⟨_,rfl⟩
       |cons b r=>exact⟨_,rfl⟩
     have hqp:(gs.map λg=>[d3o g])[k]?=some [.islice (g.map a12) cc]:=by rw[List.getElem?_map,hg,Option.map_some,hcc]
     have hs1:∀H,a0d L.env true (sem L.env Mf) (.func (.func 71) [] []) [.agg [sl o.ci (o.ins.map u8R),sl o.cs (o.sts.map u8R)],.agg [sl w.ci (w.ins.map u8R),sl w.cs (w.sts.map u8R)]] H=some (.bool true,H,[]):=λH=>b8b H o w how1 how2 hon;have hs2:∀H,a0d L.env true (sem L.env Mf) (.func (.func 71) [] []) [.agg [sl (a5f o).ci ((a5f o).ins.map u8R),sl (a5f o).cs ((a5f o).sts.map u8R)],.agg [sl o.ci (o.ins.map u8R),sl o.cs (o.sts.map u8R)]] H=some (.bool true,H,[]):=λH=>b8b H (a5f o) o rfl rfl hon;have hI1:∀(H:a04) (b:Nat) (c:Option Nat),a01 H b=some (.row 1 (g.map a12))→a0d L.env true (sem L.env Mf) (.func (.func 13) [] []) [sl (cL g) (g.map a12),.slice b 0 g.length c] H=some (.int .i64 0,H,[b]):=λH b c h=>by rw[←d3u];exact b2y (by omega) h
     have hz1:¬g.length≤0:=by have:=List.length_pos_iff.2 hgne;omega
     have hr1:g.length≤1000000000:=by omega
     have ht1:=c0k g
     (repeat first|simp only[ww]|(apply xa;simp+decide only[go_sem,e1,List.length_map];rfl;kernel_rfl))
     (repeat first|simp only[ww]|((with_reducible first|apply xs2|apply xI);(·simp+decide only[go_sem,hkl,hgl,hwl,hlw,hqo,hqw,hqa,hqg,hqp,hs1,hs2,hI1,hz1,hr1,ht1,e6t,e5v,List.length_map];rfl);with_reducible first|apply xT|apply xF|(·kernel_rfl)))
     refine a0t kp28_6 (λq F H2=>∃(t:Nat),q=g.length-t∧t≤g.length∧F=[(5,sl (cW ps) (ps.map Cb.cells)),(6,sl (cL outs) (outs.map Cb.cells)),(7,sl (cL gs) (gs.map λg=>[lsV g])),(9,sl (cW ws) (ws.map Cb.cells)),(10,sl (cW gs) (gs.map λg=>[d3o g])),(14,sl (cL (outs.map a5f)) ((outs.map a5f).map Cb.cells)),(17,.int .i64 k),(18,.int .i64 t)]∧H2=[]) g.length ?_ ?_
     ·refine⟨_,_,?_,0,rfl,Nat.zero_le _,rfl,rfl⟩
      (simp+decide only[go_sem,a03,a00]<;>rfl)<;>rfl
     ·rintro q F H2 ⟨t,rfl,ht,rfl,rfl⟩
      by_cases htl:t<g.length
      ·obtain⟨x,hx⟩:∃x,g[t]?=some x:=⟨_,z9e htl⟩
       obtain⟨p,hp,hpc⟩:=hPI.cov k g o x hg ho (List.mem_of_getElem? hx);have hxl:x<ps.length:=(List.getElem?_eq_some_iff.1 hp).1;have hpS:=hps p (List.mem_of_getElem? hp);have d1:(t:Int)<g.length:=by omega
       have htw:=wI1 (n:=t) (by omega);have hgx:(g.map a12)[t]?=some [.int .i64 x]:=by rw[List.getElem?_map,hx];rfl
       have hqp2:(ps.map Cb.cells)[x]?=some [sl p.ci (p.ins.map u8R),sl p.cs (p.sts.map u8R)]:=by rw[List.getElem?_map,hp];rfl
       have hcv:∀H,a0d L.env true (sem L.env Mf) (.func (.func 72) [] []) [.agg [sl p.ci (p.ins.map u8R),sl p.cs (p.sts.map u8R)],.agg [sl o.ci (o.ins.map u8R),sl o.cs (o.sts.map u8R)]] H=some (.bool true,H,[]):=λH=>by have:=d1i (d:=true) H p o (hpS.two hos);rw[hpc]at this;exact this
       (repeat first|simp only[ww]|(apply xa;simp+decide only[go_sem,hkl,hgl,hqg,d1,List.length_map];rfl;kernel_rfl))
       (repeat first|simp only[ww]|((with_reducible first|apply xs2|apply xI);(·simp+decide only[go_sem,hkl,hgl,htl,hxl,hqg,hgx,hqp2,hqo,hcv,htw,List.length_map];rfl);with_reducible first|apply xT|apply xF|(·kernel_rfl)))
       refine a0b (g.length-(t+1)) (by omega) ⟨_,_,?_,t+1,rfl,htl,rfl,rfl⟩
       (simp+decide only[go_sem,a03,a00]<;>rfl)<;>rfl
      ·obtain rfl:t=g.length:=by omega
       have d1:¬(g.length:Int)<g.length:=by omega
       (repeat first|simp only[ww]|(apply xa;simp+decide only[go_sem,hkl,hgl,hqg,d1,hkw,List.length_map];rfl;kernel_rfl))
       refine a0b (outs.length-(k+1)) (by omega) ⟨_,_,?_,k+1,rfl,hkl,rfl,rfl⟩
       (simp+decide only[go_sem,a03,a00]<;>rfl)<;>rfl
    ·obtain rfl:k=outs.length:=by omega
     have e1:¬(outs.length:Int)<outs.length:=by omega
     (repeat first|simp only[ww]|(apply xa;simp+decide only[go_sem,e1,hlv,List.length_map];rfl;kernel_rfl))
     refine a3q (vs:=[.bool true]) (r:=(_,_)) (by simp+decide only[go_sem]) ?_ rfl;simp+decide only[go_sem,a0j]<;>rfl
end Go.QInst
