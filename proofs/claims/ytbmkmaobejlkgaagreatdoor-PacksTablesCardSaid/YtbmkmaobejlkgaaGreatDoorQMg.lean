/- Part of a proof. No condition. -/
import Derived.Test.YtbmkmaobejlkgaaGreatDoorQPk
import Derived.Test.YtbmkmaobejlkgaaGreatDoorAxD
set_option linter.unusedSimpArgs false
set_option linter.unusedVariables false
namespace Go.QInst
open Go.Proofs Go.Ax Go.Pc
set_option maxRecDepth 100000
structure Cb where
 ci:Option (Option Nat)
 ins:List Nat
 cs:Option (Option Nat)
 sts:List Nat
def Cb.cells(p:Cb):List AV:=[sl p.ci (p.ins.map u8R),sl p.cs (p.sts.map u8R)]
def Cb.enc(p:Cb):AV:=.agg p.cells
def Cb.all(p:Cb):List Nat:=p.ins++p.sts
theorem d6j(p:Cb):sem L.env Mf 51 [p.enc] []=some (.func (.func 100) [] [.iptr p.cells],[]):=by
 unfold Cb.enc Cb.cells
 (refine sv Tryz.f51 ?_;simp only[Tryz.f51,gS])
 (repeat first|simp only[ww]|(apply xa;simp+decide only[go_sem];rfl;kernel_rfl))
 (apply fqb;simp+decide only[go_sem,a10]<;>rfl)
theorem b70{d:Bool}(H:a02)(p:Cb):a09 L.env d (sem L.env Mf) (.func (.func 51) [] []) [p.enc] H=some (.func (.func 100) [] [.iptr p.cells],H,[]):=a04 (by kernel_rfl) (by kernel_rfl) rfl (by unfold Cb.enc Cb.cells;simp+decide only[go_sem]) (d6j p) (by unfold Cb.cells;simp+decide only[go_sem])
theorem c56(p:Cb)(hl:p.ins.length+p.sts.length<100000)(Hs:Nat→a02)(m:Nat)(ai:∀i,(Hs i).length=m)(h0:0<m)(bg:∀i b,∀c∈a0o (a01 (Hs i) b),c<m)(ir:∀i,((Hs i).flatMap a0o).length<100000)
 (bm:∀(i v:Nat),p.all[i]?=some v→∃σ,∀d,a09 L.env d (sem L.env Mf) (.yfn 0) [.int .i64 i,.iptr [.int .u8 v]] (Hs i)=some (.bool true,Hs (i+1),σ)) :
 sem L.env Mf 100 [.yfn 0,.iptr p.cells] (Hs 0)=some (.tuple [],Hs (p.ins.length+p.sts.length)):=by
 have m4:a66 [] = .tuple []:=rfl;have iv:∀(i v:Nat),p.ins[i]?=some v→∃σ,∀d,a09 L.env d (sem L.env Mf) (.yfn 0) [.int .i64 i,.iptr [.int .u8 v]] (Hs i)=some (.bool true,Hs (i+1),σ):=λi v h=>bm i v (by unfold Cb.all;rw[f0i (e9k.1 h).1];exact h);have iu:∀(i v:Nat),p.sts[i]?=some v→∃σ,∀d,a09 L.env d (sem L.env Mf) (.yfn 0) [.int .i64 (p.ins.length+i:Nat),.iptr [.int .u8 v]] (Hs (p.ins.length+i))=some (.bool true,Hs (p.ins.length+i+1),σ):=λi v h=>bm (p.ins.length+i) v (by unfold Cb.all;rw[f1n (by omega),f5t];exact h);have dm:=(ai 0).symm
 suffices hs:∃r:AV×a02,(r=(.tuple [],Hs (p.ins.length+p.sts.length)))∧sem L.env Mf 100 [.yfn 0,.iptr p.cells] (Hs 0)=some r by obtain⟨r,rfl,h3⟩:=hs;exact h3
 obtain⟨ci,ins,cs,sts⟩:=p;unfold Cb.cells;simp only at hl iv iu⊢;have jD:∀i (keep:List Nat) (F F':Frm),a1i keep F=F'→a08 (F'.map (·.2))=[0]→gcD m keep F (Hs i)=some (F',Hs i):=λi keep F F' hk hF=>d0v (ai i).symm hk (by rw[hF];intro b hb;simp at hb;rw[hb,ai];exact h0) (by rw[hF];simp) (λb c hc=>by rw[ai];exact bg i b c hc) (ir i);have bD:∀i,a10 false m (.tuple []) (Hs i)=some (.tuple [],Hs i):=by
  intro i;simp only[a10,f2z];have hz:a3i m true (a58 (a01 (Hs i)) m 12) (.tuple [])=some (.tuple []):=by rfl
  rw[hz];simp only
  congr 2
  rw[←ai i,f3a];apply List.ext_getElem (by simp);intro b h1 h2;simp only[List.getElem_map];cases ho:(Hs i)[b]with
  |none=>rfl
  |some o=>
   have eC:a01 (Hs i) b=some o:=by unfold a01;rw[z9e h2,ho];rfl
   simp only[f0e];rw[a8f (m:=m) (λc hc=>by rw[ai i];unfold a1b;rw[c55,f2x hc];rfl) o (λc hc=>bg i b c (by rw[eC];exact hc))]
 (refine svE Tryz.f100 ?_;simp only[Tryz.f100,gS])
 rw[ai 0]
 (repeat first|simp only[ww]|(apply xa;simp+decide only[go_sem,c11];rfl;kernel_rfl))
 refine a1x kp100_0 (λq F H1=>∃i:Nat,q=ins.length-i∧i≤ins.length∧F=[(0,.yfn 0),(1,.iptr [sl ci (ins.map u8R),sl cs (sts.map u8R)]),(7,.int .i64 ins.length),(8,.int .i64 i)]∧H1=Hs i) ins.length ?_ ?_
 ·exact⟨_,_,jD 0 _ _ _ (by simp+decide only[go_sem]<;>rfl) (by simp+decide only[go_sem]),0,rfl,f0h _,rfl,rfl⟩
 ·rintro q F H1 ⟨i,rfl,hi,rfl,rfl⟩
  by_cases ag:i<ins.length
  ·obtain⟨v,hv⟩:∃v,ins[i]?=some v:=⟨_,z9e ag⟩
   obtain⟨σ,aw⟩:=iv i v hv;have aw:=aw false;have hg:(ins.map u8R)[i]?=some [.int .u8 v]:=by rw[f0d,hv];rfl
   have c1:(i:Int)<ins.length:=by omega
   have hw:=wI1 (n:=i) (by omega)
   (repeat first|simp only[ww]|(apply xa;simp+decide only[go_sem,c1,ag,hg,aw,hw,c11];rfl;kernel_rfl))
   refine a0p (ins.length-(i+1)) (by omega) ⟨_,_,jD (i+1) _ _ _ (by simp+decide only[go_sem]<;>rfl) (by simp+decide only[go_sem]),i+1,rfl,ag,rfl,rfl⟩
  ·obtain rfl:i=ins.length:=by omega
   have c1:¬(ins.length:Int)<ins.length:=by omega
   (repeat first|simp only[ww]|(apply xa;simp+decide only[go_sem,c1,c11];rfl;kernel_rfl))
   refine a1x kp100_2 (λq F H1=>∃j:Nat,q=sts.length-j∧j≤sts.length∧F=[(0,.yfn 0),(1,.iptr [sl ci (ins.map u8R),sl cs (sts.map u8R)]),(22,.int .i64 sts.length),(23,.int .i64 j)]∧H1=Hs (ins.length+j)) sts.length ?_ ?_
   ·exact⟨_,_,jD _ _ _ _ (by simp+decide only[go_sem]<;>rfl) (by simp+decide only[go_sem]),0,rfl,f0h _,rfl,rfl⟩
   ·rintro q F H1 ⟨j,rfl,hj,rfl,rfl⟩
    by_cases cV:j<sts.length
    ·obtain⟨v,hv⟩:∃v,sts[j]?=some v:=⟨_,z9e cV⟩
     obtain⟨σ,aw⟩:=iu j v hv;have aw:=aw true;have hg:(sts.map u8R)[j]?=some [.int .u8 v]:=by rw[f0d,hv];rfl
     have c2:(j:Int)<sts.length:=by omega
     have hw:=wI1 (n:=j) (by omega);have e7:IntKind.i64.wrap ((ins.length:Int)+(j:Int))=((ins.length+j:Nat):Int):=by rw[w64 (by omega) (by omega)];omega
     (repeat first|simp only[ww]|(apply xa;simp+decide only[go_sem,c2];rfl;kernel_rfl))
     (repeat first|simp only[ww]|((with_reducible first|apply xs2|apply xI);(·simp+decide only[go_sem,cV,hg,aw,hw,e7,c11];rfl);with_reducible first|apply xT|apply xF|(·kernel_rfl)))
     exact a0p (sts.length-(j+1)) (by omega) ⟨_,_,jD (ins.length+(j+1)) _ _ _ (by simp+decide only[go_sem]<;>rfl) (by simp+decide only[go_sem]),j+1,rfl,cV,rfl,rfl⟩
    ·obtain rfl:j=sts.length:=by omega
     have c2:¬(sts.length:Int)<sts.length:=by omega
     (repeat first|simp only[ww]|(apply xa;simp+decide only[go_sem,c2,c11];rfl;kernel_rfl))
     refine a8r (vs:=[]) (r:=(_,_)) (by simp+decide only[go_sem]) ?_ rfl;exact bD _
theorem yno:∀x∈Mf,x.g≠yId:=by decide
theorem e8s:L.env.fn yId=none:=by kernel_rfl
theorem e60(i v:Nat)(hv:v≤2):sem L.env Mf yId [.yfn 0,.int .i64 i,.iptr [.int .u8 v]] [some (.yloop 2100000 [(2,.ptr 1 0 0),(5100000,.junk)] .ready),some (.row 1 [[.int .i64 0]])]=some (.bool true,[some (.yloop 2100000 [(2,.ptr 1 0 0),(5100000,.junk)] .ready),some (.row 1 [[.int .i64 0]])]):=by
 have gt:L.env.G.rnd 2100000=a6n 0 (rfs 21 21 0 (Tryz.f21.body.getD .skip)):=by kernel_rfl
 simp only[Tryz.f21,gS,rfs,a6n,e9n,e9q,f0k,c1b,f6y,f2m,f2z,reduceCtorEq,Nat.reduceEqDiff,decide_false]at gt;have c1:¬(2:Int)<(v:Int):=by omega
 refine b2r yno e8s rfl gt rfl rfl ?_;simp only[b0h,b2p]
 (repeat first|simp only[ww]|(apply xa;simp+decide only[go_sem];rfl;kernel_rfl))
 refine d96 rfl ?_
 (repeat first|simp only[ww]|(apply xa;simp+decide only[go_sem,c1];rfl;kernel_rfl))
 exact d3m rfl rfl
theorem c37(d:Bool)(i v:Nat)(hv:v≤2):a09 L.env d (sem L.env Mf) (.yfn 0) [.int .i64 i,.iptr [.int .u8 v]] [some (.yloop 2100000 [(2,.ptr 1 0 0),(5100000,.junk)] .ready),some (.row 1 [[.int .i64 0]])]=some (.bool true,[some (.yloop 2100000 [(2,.ptr 1 0 0),(5100000,.junk)] .ready),some (.row 1 [[.int .i64 0]])],[0,1]):=by refine c3k ((a12 (sem L.env Mf yId) [.yfn 0,.int .i64 i,.iptr [.int .u8 v]] [some (.yloop 2100000 [(2,.ptr 1 0 0),(5100000,.junk)] .ready),some (.row 1 [[.int .i64 0]])] (σ:=[0,1]) (by simp+decide only[go_sem]) rfl rfl (ap:=[.yfn 0,.int .i64 i,.iptr [.int .u8 v]]) rfl (H0:=[some (.yloop 2100000 [(2,.ptr 1 0 0),(5100000,.junk)] .ready),some (.row 1 [[.int .i64 0]])]) rfl (e60 i v hv)).trans ?_) rfl;rfl
def Cb.ok(p:Cb):Prop:=p.ins.length+p.sts.length≤16384∧∀v∈p.all,v≤2
theorem b5t(p:Cb):refs (.iptr p.cells)=[]:=by unfold Cb.cells;simp+decide only[go_sem]
theorem d6c(p:Cb)(h:p.ok):sem L.env Mf 21 [p.enc] []=some (.int .i64 0,[]):=by
 have hl:=h.1;have cj:=c56 p (by omega) (λ_=>[some (.yloop 2100000 [(2,.ptr 1 0 0),(5100000,.junk)] .ready),some (.row 1 [[.int .i64 0]])]) 2 (λ_=>rfl) (by omega) (by
  intro i b c hc
  match b with
  |0=>simp[a01,a0o,a9j,refs]at hc;omega
  |1=>simp[a01,a0o,a08,refs]at hc
  |b+2=>simp[a01,a0o]at hc) (by intro i;simp[a0o,a9j,a08,refs]) (λi v hv=>⟨[0,1],λd=>c37 d i v (h.2 v (c10 hv))⟩)
 have gm:=λH=>b70 (d:=false) H p;have jc:=b5t p;have eU:∀π,ren π (.iptr p.cells) = .iptr p.cells:=λπ=>a0x π _ jc;have hw:IntKind.i64.wrap ((p.ins.length:Int)+(p.sts.length:Int))=((p.ins.length+p.sts.length:Nat):Int):=by rw[w64 (by omega) (by omega)];omega
 have c1:¬(16384:Int)<((p.ins.length+p.sts.length:Nat):Int):=by omega
 suffices hs:∃r:AV×a02,(r=(.int .i64 0,[]))∧sem L.env Mf 21 [p.enc] []=some r by obtain⟨r,rfl,h3⟩:=hs;exact h3
 have bL:a1r (sem L.env Mf 100) [.yfn 2,.iptr p.cells] [some (.row 2 [p.cells]),some (.row 1 [[.int .i64 0]]),some (.yloop 2100000 [(2,.ptr 1 0 0),(5100000,.junk)] .ready)]=some (.tuple [],[some (.row 2 [p.cells]),some (.row 1 [[.int .i64 0]]),some (.yloop 2100000 [(2,.ptr 1 0 0),(5100000,.junk)] .ready)],[2,1]):=(a12 (sem L.env Mf 100) [.yfn 2,.iptr p.cells] [some (.row 2 [p.cells]),some (.row 1 [[.int .i64 0]]),some (.yloop 2100000 [(2,.ptr 1 0 0),(5100000,.junk)] .ready)] (σ:=[2,1]) (by simp+decide only[go_sem,jc]) rfl rfl (ap:=[.yfn 0,.iptr p.cells]) (by simp+decide only[go_sem,eU]<;>rfl) (H0:=[some (.yloop 2100000 [(2,.ptr 1 0 0),(5100000,.junk)] .ready),some (.row 1 [[.int .i64 0]])]) (by rfl) cj).trans rfl;obtain⟨ci,ins,cs,sts⟩:=p;unfold Cb.enc at gm⊢;unfold Cb.cells at gm jc eU bL⊢;dsimp only at *
 (refine svE Tryz.f21 ?_;simp only[Tryz.f21,gS])
 (repeat first|simp only[ww]|(apply xa;simp+decide only[go_sem,c11,hw,c1,gm];rfl;kernel_rfl))
 refine d8l kp21_0 (by simp+decide only[go_sem]<;>rfl) rfl (by kernel_rfl) bL ?_;show bk 0 _ .normal _ [_,_,none]
 (repeat first|simp only[ww]|(apply xa;simp+decide only[go_sem];rfl;kernel_rfl))
 refine a1v (vs:=[.int .i64 0]) (r:=(_,_)) (by simp+decide only[go_sem]) ?_ rfl;simp+decide only[go_sem,a10]<;>rfl
theorem a2g(p:Cb):refs p.enc=[]:=by unfold Cb.enc Cb.cells;simp+decide only[go_sem]
theorem a8q{d:Bool}(H:a02)(p:Cb)(h:p.ok):a09 L.env d (sem L.env Mf) (.func (.func 21) [] []) [p.enc] H=some (.int .i64 0,H,[]):=a04 (by kernel_rfl) (by kernel_rfl) rfl (by simp[a08,a2g]) (d6c p h) rfl
theorem b8f(l:List Nat):FlatR (l.map u8R):=FlatR.map λ_=>rfl
theorem b7s(l:List Nat):(l.map u8R).flatMap a08=[]:=a0e (b8f l)
theorem c8x(π:Nat→Option Nat)(l:List Nat):(l.map u8R).map (λr=>r.map (ren π))=l.map u8R:=a0b π (b8f l)
theorem f2k{m:Nat}{d:AV→Option AV}(l:List Nat):a8m m d (l.map u8R)=some (l.map u8R):=a1g m d (b8f l)
theorem e7i(l:List Nat):((l.map u8R).all λr=>decide (r.length=1))=true:=by rw[f2u];intro r hr;obtain⟨x,_,rfl⟩:=f4l.1 hr;rfl
theorem e6q(l:List Nat):((l.map u8R).all λr=>r.all AV.storable)=true:=by rw[f2u];intro r hr;obtain⟨x,_,rfl⟩:=f4l.1 hr;rfl
theorem e5d:sem L.env Mf 154 [.nilslice,.int .i64 0] []=some (.nilslice,[]):=by
 have w0:IntKind.i64.wrap ((0:Int)-0)=0:=by decide
 (refine sv Tryz.f154 ?_;simp only[Tryz.f154,gS])
 (repeat first|simp only[ww]|(apply xa;simp+decide only[go_sem,w0];rfl;kernel_rfl))
 (apply fqb;simp+decide only[go_sem]<;>rfl)
theorem e8r(k n:Nat)(h0:0<n)(hn:n≤100000):a2t L.env k 49 3 .nilslice (.int .i64 n)=some (.slice k 0 n none,.new (.row 1 (List.replicate n [.int .u8 0]))):=by
 obtain⟨m,rfl⟩:∃m,n=m+1:=⟨n-1,by omega⟩
 have hu:L.env.und 49=some (.slice 42):=by kernel_rfl
 have oG:(L.env.und 3).any a2m=true:=by kernel_rfl
 obtain⟨dx,hx,hd⟩:∃dx,L.env.und 3=some dx∧a2m dx=true:=by
  cases h:L.env.und 3 with
  |none=>rw[h]at oG;cases oG
  |some dx=>rw[h]at oG;exact⟨dx,rfl,oG⟩
 have hz:L.env.zero 42=some [.int .u8 0]:=by kernel_rfl
 have hs:L.env.sz 42=1:=by kernel_rfl
 have hr:a2f L.env 42 (m+1)=true:=a71 (by omega) (by decide+kernel);unfold a2t;simp only[hu,hx,hd,hz,hs,f5n];have h1:decide (0≤((m+1:Nat):Int))=true:=f2x (by omega);have h2:(((m+1:Nat):Int)).toNat=m+1:=by omega
 have h3:Nat.blt 0 1=true:=rfl;simp only[h1,h2,h3,hr,f2m]
theorem e5c(n:Nat)(h0:0<n)(hn:n≤100000):sem L.env Mf 154 [.nilslice,.int .i64 n] []=some (.slice 0 0 0 none,[some (.row 1 (List.replicate n [.int .u8 0]))]):=by
 have c1:¬(n:Int)<0:=by omega
 have c2:(0:Int)<n:=by omega
 have w0:IntKind.i64.wrap ((0:Int)-0)=0:=by decide
 have hw:IntKind.i64.wrap ((n:Int)-0)=n:=by rw[w64 (by omega) (by omega)];omega
 have hz:=λk=>e8r k n h0 hn;have ha:apT L.env 49 3=none:=by kernel_rfl
 have hs:∀hp,a5b L.env hp 49 .nilslice none (some (.int .i64 0)) none=some .nilslice:=λhp=>by kernel_rfl
 (refine sv Tryz.f154 ?_;simp only[Tryz.f154,gS])
 (repeat first|simp only[ww]|(apply xa;simp+decide only[go_sem,c1,c2,w0,hw,hz,ha,hs];rfl;kernel_rfl))
 (apply fqb;simp+decide only[go_sem]<;>rfl)
def slU(l:List Nat):AV:=slF none (l.map u8R)
theorem c8i{l:List Nat}(h:l≠[]):slU l = .islice (l.map u8R) none:=by
 cases l with
 |nil=>exact absurd rfl h
 |cons a r=>rfl
theorem a4y(l:List Nat):refs (slU l)=[]:=by cases l<;>rfl
theorem c6i(H:a02):a09 L.env false (sem L.env Mf) (.func (.func 154) [] []) [.nilslice,.int .i64 0] H=some (.nilslice,H,[]):=a04 (by kernel_rfl) (by kernel_rfl) rfl rfl e5d rfl
theorem d0t(H:a02)(n:Nat)(h0:0<n)(hn:n≤100000):a09 L.env false (sem L.env Mf) (.func (.func 154) [] []) [.nilslice,.int .i64 n] H=some (.slice H.length 0 0 none,H++[some (.row 1 (List.replicate n [.int .u8 0]))],[]):=by
 have hc:=a12 (sem L.env Mf 154) [.nilslice,.int .i64 n] H (σ:=[]) rfl rfl rfl (ap:=[.nilslice,.int .i64 n]) rfl (H0:=[]) rfl (e5c n h0 hn);have hf:FlatR (List.replicate n [AV.int .u8 0]):=λr hr=>by rw[(List.mem_replicate.1 hr).2];rfl
 refine a85 (by kernel_rfl) (by kernel_rfl) rfl (hc.trans ?_);have hr:=λπ=>a0b π hf;simp only[a5t,ren,a13,f0g,f4g,e12,e9p,f0e,a0g,hr];simp[Nat.blt];rfl
theorem d1p(ca cb:Option (Option Nat))(a b:List Nat)(hl:a.length+b.length≤100000):sem L.env Mf 118 [.slice 0 0 2 (some 2)] [some (.row 1 [[sl ca (a.map u8R)],[sl cb (b.map u8R)]])]=some (slU (a++b),[some (.row 1 [[sl ca (a.map u8R)],[sl cb (b.map u8R)]])]):=by
 suffices hs:∃r:AV×a02,(r=(slU (a++b),[some (.row 1 [[sl ca (a.map u8R)],[sl cb (b.map u8R)]])]))∧sem L.env Mf 118 [.slice 0 0 2 (some 2)] [some (.row 1 [[sl ca (a.map u8R)],[sl cb (b.map u8R)]])]=some r by obtain⟨r,rfl,h3⟩:=hs;exact h3
 have w1:IntKind.i64.wrap ((0:Int)+(a.length:Int))=(a.length:Int):=by rw[w64 (by omega) (by omega)];omega
 have w2:IntKind.i64.wrap ((a.length:Int)+(b.length:Int))=((a.length+b.length:Nat):Int):=by rw[w64 (by omega) (by omega)];omega
 have c1:¬(a.length:Int)<0:=by omega
 have c2:¬((a.length+b.length:Nat):Int)<0:=by omega
 (refine svE Tryz.f118 ?_;simp only[Tryz.f118,gS])
 (repeat first|simp only[ww]|(apply xa;simp+decide only[go_sem];rfl;kernel_rfl))
 refine a1x kp118_0 (λq F H1=>∃(i x:Int),((i=0∧x=0∧q=2)∨(i=1∧x=a.length∧q=1)∨(i=2∧x=(a.length+b.length:Nat)∧q=0))∧F=[(0,.slice 0 0 2 (some 2)),(3,.int .i64 x),(9,.slice 0 0 2 (some 2)),(10,.int .i64 2),(11,.int .i64 i)]∧H1=[some (.row 1 [[sl ca (a.map u8R)],[sl cb (b.map u8R)]])]) 2 ?_ ?_
 ·refine⟨_,_,?_,0,0,.inl ⟨rfl,rfl,rfl⟩,rfl,rfl⟩
  (simp+decide only[go_sem,a03,a00]<;>rfl)<;>rfl
 ·rintro q F H1 ⟨i,x,h,rfl,rfl⟩
  rcases h with ⟨rfl,rfl,rfl⟩|⟨rfl,rfl,rfl⟩|⟨rfl,rfl,rfl⟩
  ·(repeat first|simp only[ww]|(apply xa;simp+decide only[go_sem,w1,c1,c11];rfl;kernel_rfl))
   refine a0p 1 (by omega) ⟨_,_,?_,1,a.length,.inr (.inl ⟨rfl,rfl,rfl⟩),rfl,rfl⟩
   (simp+decide only[go_sem,a03,a00]<;>rfl)<;>rfl
  ·(repeat first|simp only[ww]|(apply xa;simp+decide only[go_sem,w2,c2,c11];rfl;kernel_rfl))
   refine a0p 0 (by omega) ⟨_,_,?_,2,(a.length+b.length:Nat),.inr (.inr ⟨rfl,rfl,rfl⟩),rfl,rfl⟩
   (simp+decide only[go_sem,a03,a00]<;>rfl)<;>rfl
  ·rcases Nat.eq_zero_or_pos (a.length+b.length)with hz|hz
   ·have ha:a=[]:=f6n (by omega);have hb:b=[]:=f6n (by omega);subst ha hb;have hg:=λH=>c6i H;simp only[f0g,f6s,Int.natCast_zero]
    (repeat first|simp only[ww]|(apply xa;simp+decide only[go_sem,hg];rfl;kernel_rfl))
    refine a1x kp118_2 (λq F H1=>∃(i:Int),((i=0∧q=2)∨(i=1∧q=1)∨(i=2∧q=0))∧F=[(6,.nilslice),(25,.slice 0 0 2 (some 2)),(26,.int .i64 2),(27,.int .i64 i)]∧H1=[some (.row 1 [[sl ca (([]:List Nat).map u8R)],[sl cb (([]:List Nat).map u8R)]])]) 2 ?_ ?_
    ·refine⟨_,_,?_,0,.inl ⟨rfl,rfl⟩,rfl,rfl⟩
     (simp+decide only[go_sem,a03,a00]<;>rfl)<;>rfl
    ·rintro q F H1 ⟨i,h,rfl,rfl⟩
     rcases h with ⟨rfl,rfl⟩|⟨rfl,rfl⟩|⟨rfl,rfl⟩
     ·(repeat first|simp only[ww]|(apply xa;simp+decide only[go_sem,e9p];rfl;kernel_rfl))
      refine a0p 1 (by omega) ⟨_,_,?_,1,.inr (.inl ⟨rfl,rfl⟩),rfl,rfl⟩
      (simp+decide only[go_sem,a03,a00,e9p]<;>rfl)<;>rfl
     ·(repeat first|simp only[ww]|(apply xa;simp+decide only[go_sem,e9p];rfl;kernel_rfl))
      refine a0p 0 (by omega) ⟨_,_,?_,2,.inr (.inr ⟨rfl,rfl⟩),rfl,rfl⟩
      (simp+decide only[go_sem,a03,a00,e9p]<;>rfl)<;>rfl
     ·(repeat first|simp only[ww]|(apply xa;simp+decide only[go_sem];rfl;kernel_rfl))
      refine a8r (vs:=[.nilslice]) (r:=(_,_)) (by simp+decide only[go_sem]) ?_ rfl;simp+decide only[go_sem,a10]<;>rfl
   ·have hg:=λH=>d0t H (a.length+b.length) hz hl;have au:a++b≠[]:=by intro e;rw[f6u]at e;rw[e.1,e.2]at hz;simp at hz
    generalize hR:List.replicate (a.length+b.length) [AV.int .u8 0]=R at hg;have kq:R.length=a.length+b.length:=by rw[←hR];simp
    have sB:FlatR R:=λr hr=>by rw[←hR]at hr;rw[(List.mem_replicate.1 hr).2];rfl
    have eA:a.length≤1000000000:=by omega
    have e8:a.length+b.length≤1000000000:=by omega
    have bY:¬0=a.length+b.length:=by omega
    (repeat first|simp only[ww]|(apply xa;simp+decide only[go_sem,hg];rfl;kernel_rfl))
    refine a1x kp118_2 (λq F H1=>∃(i:Int) (n:Nat) (Q:List (List AV)),((i=0∧q=2∧n=0∧Q=R)∨(i=1∧q=1∧n=a.length∧Q=a.map u8R)∨(i=2∧q=0∧n=a.length+b.length∧Q=a.map u8R++b.map u8R))∧F=[(6,.slice 1 0 n none),(25,.slice 0 0 2 (some 2)),(26,.int .i64 2),(27,.int .i64 i)]∧H1=[some (.row 1 [[sl ca (a.map u8R)],[sl cb (b.map u8R)]]),some (.row 1 Q)]) 2 ?_ ?_
    ·refine⟨_,_,?_,0,0,R,.inl ⟨rfl,rfl,rfl,rfl⟩,rfl,rfl⟩
     (simp+decide only[go_sem,a03,a00,a0e sB,a0b _ sB]<;>rfl)<;>rfl
    ·rintro q F H1 ⟨i,n,Q,h,rfl,rfl⟩
     rcases h with ⟨rfl,rfl,rfl,rfl⟩|⟨rfl,rfl,rfl,rfl⟩|⟨rfl,rfl,rfl,rfl⟩
     ·(repeat first|simp only[ww]|(apply xa;simp+decide only[go_sem,e7i,e6q,kq,eA,bY,f3e,c11,f0h];rfl;kernel_rfl))
      refine a0p 1 (by omega) ⟨_,_,?_,1,a.length,a.map u8R,.inr (.inl ⟨rfl,rfl,rfl,rfl⟩),rfl,rfl⟩
      (simp+decide only[go_sem,a03,a00,b7s,c8x]<;>rfl)<;>rfl
     ·(repeat first|simp only[ww]|(apply xa;simp+decide only[go_sem,e7i,e6q,e8,c11];rfl;kernel_rfl))
      refine a0p 0 (by omega) ⟨_,_,?_,2,a.length+b.length,a.map u8R++b.map u8R,.inr (.inr ⟨rfl,rfl,rfl,rfl⟩),rfl,rfl⟩
      (simp+decide only[go_sem,a03,a00,b7s,c8x,List.flatMap_append,f2o]<;>rfl)<;>rfl
     ·(repeat first|simp only[ww]|(apply xa;simp+decide only[go_sem];rfl;kernel_rfl))
      refine a8r (vs:=[.slice 1 0 (a.length+b.length) none]) (r:=(_,_)) (by simp+decide only[go_sem]) ?_ rfl;rw[c8i au];have ht:List.take (a.length+b.length) (a.map u8R++b.map u8R)=a.map u8R++b.map u8R:=f0f (by simp);have r8:∀m d,a8m m d (a.map u8R++b.map u8R)=some (a.map u8R++b.map u8R):=λm d=>a1g m d ((b8f a).append (b8f b));have iH:a.length+b.length≤a.length+b.length:=f1u _;simp+decide only[go_sem,a10,ht,r8,c11,f1o,f2o]<;>rfl
theorem e0x(p:Cb)(hl:p.ins.length+p.sts.length≤100000):sem L.env Mf 86 [p.enc] []=some (slU p.all,[]):=by
 have hc:∀X,a09 L.env false (sem L.env Mf) (.func (.func 118) [] []) [.slice 1 0 2 (some 2)] [X,some (.row 1 [[sl p.ci (p.ins.map u8R)],[sl p.cs (p.sts.map u8R)]])]=some (slU p.all,[X,some (.row 1 [[sl p.ci (p.ins.map u8R)],[sl p.cs (p.sts.map u8R)]])],[1]):=λX=>a1q (b:=1) (by kernel_rfl) (by kernel_rfl) rfl rfl (by simp+decide only[go_sem]<;>rfl) (FlatO.row (FlatR.cons (by simp+decide only[go_sem]) (FlatR.cons (by simp+decide only[go_sem]) FlatR.nil))) rfl (ap:=[.slice 0 0 2 (some 2)]) rfl (d1p p.ci p.cs p.ins p.sts hl) (a4y _);have hf:∀b d,a3i 0 b d (slU p.all)=some (slU p.all):=λb d=>a4i _ _ d _ (a4y _);unfold Cb.enc Cb.cells
 (refine sv Tryz.f86 ?_;simp only[Tryz.f86,gS])
 (repeat first|simp only[ww]|(apply xa;simp+decide only[go_sem,hc];rfl;kernel_rfl))
 (apply fqb;simp+decide only[go_sem,hf]<;>rfl)
theorem c0s{d:Bool}(H:a02)(p:Cb)(hl:p.ins.length+p.sts.length≤100000):a09 L.env d (sem L.env Mf) (.func (.func 86) [] []) [p.enc] H=some (slU p.all,H,[]):=a04 (by kernel_rfl) (by kernel_rfl) rfl (by simp[a08,a2g]) (e0x p hl) (a4y _)
theorem e1g(p q:Cb)(hp:p.ok)(hq:q.ok)(h1:p.ins.length=q.ins.length)(h2:p.sts.length=q.sts.length):sem L.env Mf 85 [p.enc,q.enc] []=some (.int .i64 0,[]):=by
 have kg:=a8q (d:=false) (p:=p) (h:=hp);have sf:=a8q (d:=false) (p:=q) (h:=hq);unfold Cb.enc Cb.cells at kg sf⊢;have e1:((p.ins.length:Int)=q.ins.length)=True:=f7k (by omega);have e2:((p.sts.length:Int)=q.sts.length)=True:=f7k (by omega)
 suffices hs:∃r:AV×a02,(r=(.int .i64 0,[]))∧sem L.env Mf 85 [.agg [sl p.ci (p.ins.map u8R),sl p.cs (p.sts.map u8R)],.agg [sl q.ci (q.ins.map u8R),sl q.cs (q.sts.map u8R)]] []=some r by obtain⟨r,rfl,h3⟩:=hs;exact h3
 (refine svE Tryz.f85 ?_;simp only[Tryz.f85,gS])
 (repeat first|simp only[ww]|(apply xa;simp+decide only[go_sem];rfl;kernel_rfl))
 refine a1x kp85_0 (λn F H1=>∃(i:Int),((i=0∧n=2)∨(i=1∧n=1)∨(i=2∧n=0))∧F=[(2,.ptr 0 0 0),(3,.ptr 1 0 0),(10,.slice 2 0 2 (some 2)),(11,.int .i64 2),(12,.int .i64 i)]∧H1=[some (.row 2 [[sl p.ci (p.ins.map u8R),sl p.cs (p.sts.map u8R)]]),some (.row 2 [[sl q.ci (q.ins.map u8R),sl q.cs (q.sts.map u8R)]]),some (.row 2 [[sl p.ci (p.ins.map u8R),sl p.cs (p.sts.map u8R)],[sl q.ci (q.ins.map u8R),sl q.cs (q.sts.map u8R)]])]) 2 ?_ ?_
 ·refine⟨_,_,?_,0,.inl ⟨rfl,rfl⟩,rfl,rfl⟩
  (simp+decide only[go_sem,a03,a00]<;>rfl)<;>rfl
 ·rintro n F H1 ⟨i,h,rfl,rfl⟩
  rcases h with ⟨rfl,rfl⟩|⟨rfl,rfl⟩|⟨rfl,rfl⟩
  ·(repeat first|simp only[ww]|(apply xa;simp+decide only[go_sem,kg];rfl;kernel_rfl))
   refine a0p 1 (by omega) ⟨_,_,?_,1,.inr (.inl ⟨rfl,rfl⟩),rfl,rfl⟩
   (simp+decide only[go_sem,a03,a00]<;>rfl)<;>rfl
  ·(repeat first|simp only[ww]|(apply xa;simp+decide only[go_sem,sf];rfl;kernel_rfl))
   refine a0p 0 (by omega) ⟨_,_,?_,2,.inr (.inr ⟨rfl,rfl⟩),rfl,rfl⟩
   (simp+decide only[go_sem,a03,a00]<;>rfl)<;>rfl
  ·(repeat first|simp only[ww]|(apply xa;simp+decide only[go_sem,c11,e1,e2];rfl;kernel_rfl))
   refine a1v (vs:=[.int .i64 0]) (r:=(_,_)) (by simp+decide only[go_sem]) ?_ rfl;simp+decide only[go_sem,a10]<;>rfl
theorem c19{d:Bool}(H:a02)(p q:Cb)(hp:p.ok)(hq:q.ok)(h1:p.ins.length=q.ins.length)(h2:p.sts.length=q.sts.length):a09 L.env d (sem L.env Mf) (.func (.func 85) [] []) [p.enc,q.enc] H=some (.int .i64 0,H,[]):=a04 (by kernel_rfl) (by kernel_rfl) rfl (by simp[a08,a2g]) (e1g p q hp hq h1 h2) rfl
theorem e17(x y:Nat)(hx:x≤2)(hy:y≤2):sem L.env Mf 116 [.int .u8 x,.int .u8 y] []=some (.bool (decide (x+y=1)),[]):=by
 have hw:IntKind.u8.wrap ((x:Int)+(y:Int))=((x+y:Nat):Int):=by
  have:IntKind.u8.wrap ((x:Int)+(y:Int))=((x:Int)+y)%256:=by simp[IntKind.wrap,IntKind.signed,IntKind.bits]
  rw[this];omega
 have hd:decide (((x+y:Nat):Int)=1)=decide (x+y=1):=by rw[f6l,f0l,f0l];omega
 (refine sv Tryz.f116 ?_;simp only[Tryz.f116,gS])
 (repeat first|simp only[ww]|(apply xa;simp+decide only[go_sem,hw];rfl;kernel_rfl))
 (apply fqb;simp+decide only[go_sem,hd]<;>rfl)
def b4h(f:Nat→Nat→Bool)(a b:List Nat)(i:Nat):Nat:=((a.zip b).take i).countP λz=>f z.1 z.2
theorem d1t{f:Nat→Nat→Bool}{a b:List Nat}{i x y:Nat}(hx:a[i]?=some x)(hy:b[i]?=some y):b4h f a b (i+1)=b4h f a b i+if f x y then 1 else 0:=by
 unfold b4h;have hz:(a.zip b)[i]?=some (x,y):=by rw[List.getElem?_zip_eq_some];exact⟨hx,hy⟩
 rw[List.take_add_one,hz,List.countP_append];simp only[Option.toList_some,List.countP_cons,List.countP_nil,f3e]
theorem e1e(f:Nat→Nat→Bool)(a b:List Nat)(i:Nat):b4h f a b i≤i:=by unfold b4h;exact f7j List.countP_le_length (by simp;omega)
theorem b0g(π:Nat→Option Nat)(l:List Nat):ren π (slU l)=slU l:=a0x π _ (a4y l)
theorem b9k(l:List Nat):(slU l).cells=[slU l]:=by cases l<;>rfl
theorem c8h(l:List Nat):(slU l).storable=true:=by cases l<;>rfl
theorem c3p(l:List Nat):(slU l).isJunk=false:=by cases l<;>rfl
def IsF(FV:AV)(f:Nat→Nat→Bool):Prop:=refs FV=[]∧AV.cells FV=[FV]∧AV.storable FV=true∧AV.isJunk FV=false∧∀(x y:Nat),x≤2→y≤2→∀d H,a09 L.env d (sem L.env Mf) FV [.int .u8 x,.int .u8 y] H=some (.bool (f x y),H,[])
def HsC(FV:AV)(f:Nat→Nat→Bool)(a b:List Nat)(i:Nat):a02:=[some (.yloop 11100000 [(5,.ptr 1 0 0),(6,.ptr 2 0 0),(7,.ptr 3 0 0),(14100000,.junk)] .ready),some (.row 1 [[FV]]),some (.row 1 [[.int .i64 (b4h f a b i)]]),some (.row 1 [[slU b]])]
theorem e5y(FV:AV)(f:Nat→Nat→Bool)(hF:IsF FV f)(a b:List Nat)(i x y:Nat)(hx:a[i]?=some x)(hy:b[i]?=some y)(pm:x≤2)(gH:y≤2)(hi:i<100000):sem L.env Mf yId [.yfn 0,.int .i64 i,.iptr [.int .u8 x]] (HsC FV f a b i)=some (.bool true,HsC FV f a b (i+1)):=by
 have gt:L.env.G.rnd 11100000=a6n 0 (rfs 32 111 0 (Tryz.f111.body.getD .skip)):=by kernel_rfl
 simp only[Tryz.f111,gS,rfs,a6n,e9n,e9q,f0k,c1b,f6y,f2m,f2z,reduceCtorEq,Nat.reduceEqDiff,decide_false]at gt;obtain⟨h1,h2,h3,h4,h5⟩:=hF;have hc:=λH=>h5 x y pm gH true H;have aw:=d1t (f:=f) hx hy;have bd:=e1e f a b i;have hw:=wI1 (n:=b4h f a b i) (by omega);have hg:(b.map u8R)[i]?=some [.int .u8 y]:=by rw[f0d,hy];rfl
 have ag:=(e9k.1 hy).1;have au:b≠[]:=by intro e;rw[e]at ag;simp at ag
 have ep:=c8i au;unfold HsC;rw[ep];refine b2r yno e8s rfl gt rfl rfl ?_;simp only[b0h,b2p]
 (repeat first|simp only[ww]|(apply xa;simp+decide only[go_sem];rfl;kernel_rfl))
 refine d96 rfl ?_;by_cases hf:f x y=true
 ·rw[hf]at hc aw;rw[f1r rfl]at aw
  (repeat first|simp only[ww]|((with_reducible first|apply xs2|apply xI);(·simp+decide only[go_sem,hg,ag,hc,c11,hw];rfl);with_reducible first|apply xT|apply xF|(·kernel_rfl)))
  rw[aw];exact d3m rfl rfl
 ·have hf:f x y=false:=by simpa using hf
  rw[hf]at hc aw;rw[f0j (by decide),f6s]at aw
  (repeat first|simp only[ww]|((with_reducible first|apply xs2|apply xI);(·simp+decide only[go_sem,hg,ag,hc,c11];rfl);with_reducible first|apply xT|apply xF|(·kernel_rfl)))
  rw[aw];exact d3m rfl rfl
theorem c33(d:Bool)(FV:AV)(f:Nat→Nat→Bool)(hF:IsF FV f)(a b:List Nat)(i x y:Nat)(hx:a[i]?=some x)(hy:b[i]?=some y)(pm:x≤2)(gH:y≤2)(hi:i<100000):a09 L.env d (sem L.env Mf) (.yfn 0) [.int .i64 i,.iptr [.int .u8 x]] (HsC FV f a b i)=some (.bool true,HsC FV f a b (i+1),[0,1,2,3]):=by have hr:=e5y FV f hF a b i x y hx hy pm gH hi;have h1:=hF.1;have h2:∀π,ren π FV=FV:=λπ=>a0x π _ h1;have h3:=a4y b;have h4:=λπ=>b0g π b;unfold HsC at hr⊢;refine c3k ((a12 (sem L.env Mf yId) [.yfn 0,.int .i64 i,.iptr [.int .u8 x]] _ (σ:=[0,1,2,3]) (by simp+decide only[go_sem,h1,h3]) rfl rfl (ap:=[.yfn 0,.int .i64 i,.iptr [.int .u8 x]]) rfl (H0:=_) (by simp only[a1k,e12,e9p,a01,f1q,f1p,f3n,f0e,a0g,h2,h4];rfl) hr).trans ?_) rfl;simp+decide only[go_sem,h2,h4]<;>rfl
theorem e2c(FV:AV)(f:Nat→Nat→Bool)(a b:List Nat)(i:Nat):(HsC FV f a b i).length=4:=by rfl
structure Shp(p q:Cb):Prop where
 okp:p.ok
 okq:q.ok
 ins:p.ins.length=q.ins.length
 sts:p.sts.length=q.sts.length
theorem Shp.len{p q:Cb}(h:Shp p q):p.all.length=q.all.length:=by unfold Cb.all;rw[f1o,f1o,h.ins,h.sts]
theorem c9q(p q:Cb)(h:Shp p q)(FV:AV)(f:Nat→Nat→Bool)(hF:IsF FV f):sem L.env Mf 111 [p.enc,q.enc,FV] []=some (.int .i64 (b4h f p.all q.all (p.ins.length+p.sts.length)),[]):=by
 have cI:=h.okp.1;have rC:=h.okq.1;have h1:=hF.1;obtain⟨_,h2,h3,h4,_⟩:=id hF;have hn:∀π,ren π FV=FV:=λπ=>a0x π _ h1;have g1:=a4y q.all;have g2:=λπ=>b0g π q.all;have hl:=h.len;have cj:=c56 p (by omega) (HsC FV f p.all q.all) 4 (λi=>e2c FV f p.all q.all i) (by omega) (by
  intro i b c hc;unfold HsC at hc
  match b with
  |0=>simp[a01,a0o,a9j,refs]at hc;omega
  |1=>simp[a01,a0o,a08,refs,h1]at hc
  |2=>simp[a01,a0o,a08,refs]at hc
  |3=>simp[a01,a0o,a08,refs,g1]at hc
  |b+4=>simp[a01,a0o]at hc) (by intro i;unfold HsC;simp[a0o,a9j,a08,refs,h1,g1]) (λi v hv=>by
   have cW:=(e9k.1 hv).1;obtain⟨y,hy⟩:∃y,q.all[i]?=some y:=⟨_,z9e (by omega)⟩
   have bd:p.all.length=p.ins.length+p.sts.length:=by unfold Cb.all;simp
   exact⟨[0,1,2,3],λd=>c33 d FV f hF p.all q.all i v y hv hy (h.okp.2 v (c10 hv)) (h.okq.2 y (c10 hy)) (by omega)⟩)
 have bG:=c19 (d:=false) (p:=p) (q:=q) (hp:=h.okp) (hq:=h.okq) (h1:=h.ins) (h2:=h.sts);have bF:=λH=>c0s (d:=false) H q (by omega);have gm:=λH=>b70 (d:=false) H p;have jc:=b5t p;have eU:∀π,ren π (.iptr p.cells) = .iptr p.cells:=λπ=>a0x π _ jc;have hT:HsC FV f p.all q.all 0=[some (.yloop 11100000 [(5,.ptr 1 0 0),(6,.ptr 2 0 0),(7,.ptr 3 0 0),(14100000,.junk)] .ready),some (.row 1 [[FV]]),some (.row 1 [[.int .i64 0]]),some (.row 1 [[slU q.all]])]:=by unfold HsC b4h;simp
 have bL:∀X Y,a1r (sem L.env Mf 100) [.yfn 5,.iptr p.cells] [X,Y,some (.row 1 [[FV]]),some (.row 1 [[.int .i64 0]]),some (.row 1 [[slU q.all]]),some (.yloop 11100000 [(5,.ptr 2 0 0),(6,.ptr 3 0 0),(7,.ptr 4 0 0),(14100000,.junk)] .ready)] =
  some (.tuple [],[X,Y,some (.row 1 [[FV]]),some (.row 1 [[.int .i64 (b4h f p.all q.all (p.ins.length+p.sts.length))]]),some (.row 1 [[slU q.all]]),some (.yloop 11100000 [(5,.ptr 2 0 0),(6,.ptr 3 0 0),(7,.ptr 4 0 0),(14100000,.junk)] .ready)],[5,2,3,4]):=by
  intro X Y;rw[hT]at cj;unfold HsC at cj;refine(a12 (sem L.env Mf 100) [.yfn 5,.iptr p.cells] _ (σ:=[5,2,3,4]) (by simp+decide only[go_sem,jc,h1,g1]) rfl rfl (ap:=[.yfn 0,.iptr p.cells]) (by simp+decide only[go_sem,eU]<;>rfl) (H0:=_) (by simp only[a1k,e12,e9p,a01,f1q,f1p,f3n,f0e,a0g,hn,g2];rfl) cj).trans ?_;simp+decide only[go_sem,hn,g2]<;>rfl
 unfold Cb.enc at bG bF gm⊢;unfold Cb.cells at bG bF gm jc eU bL⊢
 (refine sv Tryz.f111 ?_;simp only[Tryz.f111,gS])
 (repeat first|simp only[ww]|(apply xa;simp+decide only[go_sem,bG,bF,gm,h2,h3,h4,b9k,c8h,c3p];rfl;kernel_rfl))
 refine d8l kp111_0 (by simp+decide only[go_sem]<;>rfl) rfl (by kernel_rfl) (bL _ _) ?_;show bk 0 _ .normal _ [_,_,_,_,_,none]
 (repeat first|simp only[ww]|(apply xa;simp+decide only[go_sem];rfl;kernel_rfl))
 (apply fqb;simp+decide only[go_sem]<;>rfl)
theorem c2g{d:Bool}(H:a02)(p q:Cb)(h:Shp p q)(FV:AV)(f:Nat→Nat→Bool)(hF:IsF FV f):a09 L.env d (sem L.env Mf) (.func (.func 111) [] []) [p.enc,q.enc,FV] H=some (.int .i64 (b4h f p.all q.all (p.ins.length+p.sts.length)),H,[]):=a04 (by kernel_rfl) (by kernel_rfl) rfl (by simp[a08,a2g,hF.1]) (c9q p q h FV f hF) rfl
def d5p(x y:Nat):Bool:=decide (x+y=1)
def e39(x y:Nat):Bool:=!decide (x=2) && !decide (x=y)
theorem f0t:IsF (.func (.func 116) [] []) d5p:=⟨rfl,rfl,rfl,rfl,λx y hx hy d H=>a04 (by kernel_rfl) (by kernel_rfl) rfl rfl (e17 x y hx hy) rfl⟩
def Cb.n(p:Cb):Nat:=p.ins.length+p.sts.length
def a8o(p q:Cb):Bool:=decide (b4h d5p p.all q.all p.n=0)
def d5w(p q:Cb):Bool:=decide (b4h e39 p.all q.all p.n=0)
theorem e16(p q:Cb)(h:Shp p q):sem L.env Mf 81 [p.enc,q.enc] []=some (.int .i64 (b4h d5p p.all q.all p.n),[]):=by
 have hc:=c2g (d:=false) (p:=p) (q:=q) (h:=h) (hF:=f0t);unfold Cb.enc Cb.cells at hc⊢;unfold Cb.n
 (refine sv Tryz.f81 ?_;simp only[Tryz.f81,gS])
 (repeat first|simp only[ww]|(apply xa;simp+decide only[go_sem,hc];rfl;kernel_rfl))
 (apply fqb;simp+decide only[go_sem]<;>rfl)
theorem d1i{d:Bool}(H:a02)(p q:Cb)(h:Shp p q):a09 L.env d (sem L.env Mf) (.func (.func 81) [] []) [p.enc,q.enc] H=some (.int .i64 (b4h d5p p.all q.all p.n),H,[]):=a04 (by kernel_rfl) (by kernel_rfl) rfl (by simp[a08,a2g]) (e16 p q h) rfl
theorem d1q(p q:Cb)(h:Shp p q):sem L.env Mf 38 [p.enc,q.enc] []=some (.bool (a8o p q),[]):=by
 have hc:=d1i (d:=false) (p:=p) (q:=q) (h:=h);have hd:decide (((b4h d5p p.all q.all p.n:Nat):Int)=0)=a8o p q:=by unfold a8o;rw[f6l,f0l,f0l];omega
 unfold Cb.enc Cb.cells at hc⊢
 (refine sv Tryz.f38 ?_;simp only[Tryz.f38,gS])
 (repeat first|simp only[ww]|(apply xa;simp+decide only[go_sem,hc];rfl;kernel_rfl))
 (apply fqb;simp+decide only[go_sem,hd]<;>rfl)
theorem b4f{d:Bool}(H:a02)(p q:Cb)(h:Shp p q):a09 L.env d (sem L.env Mf) (.func (.func 38) [] []) [p.enc,q.enc] H=some (.bool (a8o p q),H,[]):=a04 (by kernel_rfl) (by kernel_rfl) rfl (by simp[a08,a2g]) (d1q p q h) rfl
theorem mk0{n:Nat}(h:n≤100000):c9p L.env 42 0 (n:Int)=true:=by have:=a8k (E:=L.env) (e:=42) (m:=n) (by omega) (by decide+kernel);unfold c9p at this⊢;simp only[e9l,f0l]at this⊢;omega
theorem e4m(p:Cb)(hl:p.n≤100000):sem L.env Mf 84 [p.enc] []=some (.agg [.slice 2 0 p.ins.length (some p.ins.length),.slice 3 0 p.sts.length (some p.sts.length)],
 [some (.row 2 [p.cells]),some (.row 2 [[.slice 2 0 p.ins.length (some p.ins.length),.slice 3 0 p.sts.length (some p.sts.length)]]),some (.row 1 (p.ins.map u8R)),some (.row 1 (p.sts.map u8R))]):=by
 unfold Cb.n at hl;have m1:=mk0 (n:=p.ins.length) (by omega);have m2:=mk0 (n:=p.sts.length) (by omega);have l1:=e7i p.ins;have l2:=e7i p.sts;have s1:=e6q p.ins;have s2:=e6q p.sts;have d1:List.drop p.ins.length (List.replicate p.ins.length [AV.int .u8 0])=[]:=List.drop_of_length_le (by simp);have d2:List.drop p.sts.length (List.replicate p.sts.length [AV.int .u8 0])=[]:=List.drop_of_length_le (by simp);unfold Cb.enc Cb.cells
 (refine sv Tryz.f84 ?_;simp only[Tryz.f84,gS])
 (repeat first|simp only[ww]|(apply xa;simp+decide only[go_sem];rfl;kernel_rfl))
 (repeat first|simp only[ww]|((with_reducible first|apply xs2|apply xI);(·simp+decide only[go_sem,m1,m2,l1,l2,s1,s2,d1,d2,c11,List.length_replicate,f3e,f0h,f1u,e9n,e9q];rfl);with_reducible first|apply xT|apply xF|(·kernel_rfl)))
 (apply fqb;simp+decide only[go_sem]<;>rfl)
def e7a(b:Nat)(p:Cb):a02:=[some (.row 2 [p.cells]),some (.row 2 [[.slice (b+2) 0 p.ins.length (some p.ins.length),.slice (b+3) 0 p.sts.length (some p.sts.length)]]),some (.row 1 (p.ins.map u8R)),some (.row 1 (p.sts.map u8R))]
theorem c40{d:Bool}(H:a02)(p:Cb)(hl:p.n≤100000):a09 L.env d (sem L.env Mf) (.func (.func 84) [] []) [p.enc] H =
 some (.agg [.slice (H.length+2) 0 p.ins.length (some p.ins.length),.slice (H.length+3) 0 p.sts.length (some p.sts.length)],H++e7a H.length p,[]):=by
 have hr:=a2g p;have hn:∀π,ren π p.enc=p.enc:=λπ=>a0x π _ hr;have h1:=λπ=>c8x π p.ins;have h2:=λπ=>c8x π p.sts;have hc:=a12 (sem L.env Mf 84) [p.enc] H (σ:=[]) (by simp only[a08,hr,e9n];rfl) rfl rfl (ap:=[p.enc]) (by simp[hn]) (H0:=[]) rfl (e4m p hl);refine b8n (by kernel_rfl) (by kernel_rfl) rfl (hc.trans ?_) (by simp);unfold e7a Cb.cells;simp only[a5t,f0g,f4g,e12,e9p,f0e,a0g,h1,h2,b5q,ren,b5s,d6m]
theorem d57(p:Cb):sem L.env Mf 117 [.nilslice,.func (.func 83) [] [.ptr 0 0 0]] [some (.row 2 [p.cells])]=some (.int .i64 (-1),[some (.row 2 [p.cells])]):=by
 unfold Cb.cells
 (refine sv Tryz.f117 ?_;simp only[Tryz.f117,gS])
 (repeat first|simp only[ww]|(apply xa;simp+decide only[go_sem];rfl;kernel_rfl))
 refine a1x kp117_0 (λq F H1=>F=[(0,.nilslice),(1,.func (.func 83) [] [.ptr 0 0 0]),(7,.int .i64 0),(8,.int .i64 0)]∧H1=[some (.row 2 [[sl p.ci (p.ins.map u8R),sl p.cs (p.sts.map u8R)]])]) 0 ?_ ?_
 ·refine⟨_,_,?_,rfl,rfl⟩
  (simp+decide only[go_sem,a03,a00]<;>rfl)<;>rfl
 ·rintro q F H1 ⟨rfl,rfl⟩
  (repeat first|simp only[ww]|(apply xa;simp+decide only[go_sem];rfl;kernel_rfl))
  (apply fqb;simp+decide only[go_sem]<;>rfl)
theorem d65(p:Cb):sem L.env Mf 82 [.nilslice,.func (.func 83) [] [.ptr 0 0 0]] [some (.row 2 [p.cells])]=some (.bool false,[some (.row 2 [p.cells])]):=by
 have hc:=a1q (E:=L.env) (ah:=false) (call:=sem L.env Mf) (g:=117) (fs:=[]) (cs:=[]) (ar:=[.nilslice,.func (.func 83) [] [.ptr 0 0 0]]) (H:=[some (.row 2 [p.cells])]) (b:=0) (by kernel_rfl) (by kernel_rfl) rfl rfl (by unfold Cb.cells;simp+decide only[go_sem]<;>rfl) (FlatO.row (FlatR.cons (by unfold Cb.cells;simp+decide only[go_sem]) FlatR.nil)) rfl rfl (d57 p) rfl;unfold Cb.cells at hc⊢
 (refine sv Tryz.f82 ?_;simp only[Tryz.f82,gS])
 (repeat first|simp only[ww]|(apply xa;simp+decide only[go_sem,hc];rfl;kernel_rfl))
 (apply fqb;simp+decide only[go_sem]<;>rfl)
def b0m(p:Cb):Cb:=⟨some (some p.ins.length),p.ins,some (some p.sts.length),p.sts⟩
theorem e94(l:List Nat):List.take l.length (l.map u8R)=l.map u8R:=f0f (by simp)
theorem d3v(p:Cb)(h:p.ok):sem L.env Mf 39 [p.enc,.nilslice] []=some (.tuple [(b0m p).enc,.int .i64 0],[]):=by
 have hl:=h.1;have bG:=a8q (d:=false) (p:=p) (h:=h);have nM:∀X,a09 L.env false (sem L.env Mf) (.func (.func 82) [] []) [.nilslice,.func (.func 83) [] [.ptr 0 0 0]] [some (.row 2 [p.cells]),X]=some (.bool false,[some (.row 2 [p.cells]),X],[0]):=λX=>a1q (b:=0) (by kernel_rfl) (by kernel_rfl) rfl rfl (by unfold Cb.cells;simp+decide only[go_sem]<;>rfl) (FlatO.row (FlatR.cons (by unfold Cb.cells;simp+decide only[go_sem]) FlatR.nil)) rfl (ap:=[.nilslice,.func (.func 83) [] [.ptr 0 0 0]]) rfl (d65 p) rfl;have l4:=λH=>c40 (d:=false) H p (by unfold Cb.n;omega);unfold e7a at l4;unfold b0m;unfold Cb.enc Cb.cells at bG nM l4⊢;dsimp only
 (refine sv Tryz.f39 ?_;simp only[Tryz.f39,gS])
 (repeat first|simp only[ww]|(apply xa;simp+decide only[go_sem,bG,nM,l4];rfl;kernel_rfl))
 refine a1x kp39_0 (λq F H1=>F=[(2,.ptr 0 0 0),(4,.ptr 1 0 0),(7,.ptr 2 0 0),(22,.nilslice),(23,.int .i64 0),(24,.int .i64 0)]∧
  H1=[some (.row 2 [[sl p.ci (p.ins.map u8R),sl p.cs (p.sts.map u8R)]]),some (.row 2 [[.nilslice,.nilslice]]),some (.row 2 [[.slice 3 0 p.ins.length (some p.ins.length),.slice 4 0 p.sts.length (some p.sts.length)]]),some (.row 1 (p.ins.map u8R)),some (.row 1 (p.sts.map u8R))]) 0 ?_ ?_
 ·refine⟨_,_,?_,rfl,rfl⟩
  (simp+decide only[go_sem,a03,a00,b7s,c8x]<;>rfl)<;>rfl
 ·rintro q F H1 ⟨rfl,rfl⟩
  (repeat first|simp only[ww]|(apply xa;simp+decide only[go_sem];rfl;kernel_rfl))
  (apply fqb;simp+decide only[go_sem,f2k,e94,c11]<;>rfl)
theorem c5w(H:a02)(p:Cb)(h:p.ok):a09 L.env false (sem L.env Mf) (.func (.func 39) [] []) [p.enc,.nilslice] H=some (.tuple [(b0m p).enc,.int .i64 0],H,[]):=a04 (by kernel_rfl) (by kernel_rfl) rfl (by simp[a08,a2g,refs]) (d3v p h) (by simp[refs,a08,a2g])
theorem d7v(b:List Nat)(X:List (List AV))(i k x y:Nat)(hX:FlatR X)(hx:X[k]?=some [.int .u8 x])(hy:b[i]?=some y):sem L.env Mf yId [.yfn 0,.int .i64 i,.ptr 2 k 0] [some (.yloop 4000000 [(8,.ptr 1 0 0),(7000000,.junk)] .ready),some (.row 1 [[slU b]]),some (.row 1 X)]=some (.bool true,[some (.yloop 4000000 [(8,.ptr 1 0 0),(7000000,.junk)] .ready),some (.row 1 [[slU b]]),some (.row 1 (X.set k [.int .u8 (min x y:Nat)]))]):=by
 have gt:L.env.G.rnd 4000000=a6n 0 (rfs 42 40 0 (Tryz.f40.body.getD .skip)):=by kernel_rfl
 simp only[Tryz.f40,gS,rfs,a6n,e9n,e9q,f0k,c1b,f6y,f2m,f2z,reduceCtorEq,Nat.reduceEqDiff,decide_false]at gt;have hg:(b.map u8R)[i]?=some [.int .u8 y]:=by rw[f0d,hy];rfl
 have ag:=(e9k.1 hy).1;have bw:=(e9k.1 hx).1;have au:b≠[]:=by intro e;rw[e]at ag;simp at ag
 have eY:(if(y:Int)<(x:Int)then(y:Int)else(x:Int))=((min x y:Nat):Int):=by
  by_cases h:y<x
  ·rw[f1r (by omega),Nat.min_eq_right (by omega)]
  ·rw[f0j (by omega),Nat.min_eq_left (by omega)]
 rw[c8i au];refine b2r yno e8s rfl gt rfl rfl ?_;simp only[b0h,b2p]
 (repeat first|simp only[ww]|(apply xa;simp+decide only[go_sem];rfl;kernel_rfl))
 refine d96 rfl ?_
 (repeat first|simp only[ww]|((with_reducible first|apply xs2|apply xI);(·simp+decide only[go_sem,hg,ag,hx,bw,eY,c11];rfl);with_reducible first|apply xT|apply xF|(·kernel_rfl)))
 exact d3m rfl rfl
def mrH(b:List Nat)(n m:Nat)(X Y:List (List AV)):a02:=[some (.yloop 4000000 [(8,.ptr 1 0 0),(7000000,.junk)] .ready),some (.row 1 [[slU b]]),some (.row 2 [[.slice 3 0 n (some n),.slice 4 0 m (some m)]]),some (.row 1 X),some (.row 1 Y)]
theorem e50(d:Bool)(b:List Nat)(n m:Nat)(X Y:List (List AV))(i k x y:Nat)(hX:FlatR X)(hx:X[k]?=some [.int .u8 x])(hy:b[i]?=some y):a09 L.env d (sem L.env Mf) (.yfn 0) [.int .i64 i,.ptr 3 k 0] (mrH b n m X Y)=some (.bool true,mrH b n m (X.set k [.int .u8 (min x y:Nat)]) Y,[0,1,3]):=by
 have h3:=a4y b;have h4:=λπ=>b0g π b;have h5:=a0e hX;have h6:=λπ=>a0b π hX;have fa:FlatR (X.set k [.int .u8 (min x y:Nat)]):=λr hr=>by
  rcases f3j hr with h|rfl
  ·exact hX r h
  ·rfl
 have h7:=λπ=>a0b π fa;unfold mrH;refine c3k ((a12 (sem L.env Mf yId) [.yfn 0,.int .i64 i,.ptr 3 k 0] _ (σ:=[0,1,3]) (by simp+decide only[go_sem,h3,h5]) rfl rfl (ap:=[.yfn 0,.int .i64 i,.ptr 2 k 0]) rfl (H0:=_) (by simp only[a1k,e12,e9p,a01,f1q,f1p,f3n,f0e,a0g,h4,h6];rfl) (d7v b X i k x y hX hx hy)).trans ?_) rfl;simp+decide only[go_sem,h4,h7]<;>rfl
theorem e4z(d:Bool)(b:List Nat)(n m:Nat)(X Y:List (List AV))(i k x y:Nat)(hX:FlatR Y)(hx:Y[k]?=some [.int .u8 x])(hy:b[i]?=some y):a09 L.env d (sem L.env Mf) (.yfn 0) [.int .i64 i,.ptr 4 k 0] (mrH b n m X Y)=some (.bool true,mrH b n m X (Y.set k [.int .u8 (min x y:Nat)]),[0,1,4]):=by
 have h3:=a4y b;have h4:=λπ=>b0g π b;have h5:=a0e hX;have h6:=λπ=>a0b π hX;have fa:FlatR (Y.set k [.int .u8 (min x y:Nat)]):=λr hr=>by
  rcases f3j hr with h|rfl
  ·exact hX r h
  ·rfl
 have h7:=λπ=>a0b π fa;unfold mrH;refine c3k ((a12 (sem L.env Mf yId) [.yfn 0,.int .i64 i,.ptr 4 k 0] _ (σ:=[0,1,4]) (by simp+decide only[go_sem,h3,h5]) rfl rfl (ap:=[.yfn 0,.int .i64 i,.ptr 2 k 0]) rfl (H0:=_) (by simp only[a1k,e12,e9p,a01,f1q,f1p,f3n,f0e,a0g,h4,h6];rfl) (d7v b Y i k x y hX hx hy)).trans ?_) rfl;simp+decide only[go_sem,h4,h7]<;>rfl
def mzT(a b:List Nat)(i:Nat):List Nat:=(List.zipWith min a b).take i++a.drop i
theorem b27(a b:List Nat):mzT a b 0=a:=by simp[mzT]
theorem c9l{a b:List Nat}(h:a.length≤b.length)(i:Nat):(mzT a b i).length=a.length:=by unfold mzT;simp;omega
theorem c2d{a b:List Nat}(h:a.length≤b.length):mzT a b a.length=List.zipWith min a b:=by unfold mzT;rw[List.drop_length,e9n,f0f (by simp;omega)]
theorem c9m{a b:List Nat}{i x:Nat}(h:a.length≤b.length)(hx:a[i]?=some x):(mzT a b i)[i]?=some x:=by
 have hi:=(e9k.1 hx).1;unfold mzT;have hl:((List.zipWith min a b).take i).length=i:=by simp;omega
 rw[f1n (by omega),hl,Nat.sub_self,f6i,f6s];exact hx
theorem c9k{a b:List Nat}{i x y:Nat}(h:a.length≤b.length)(hx:a[i]?=some x)(hy:b[i]?=some y):(mzT a b i).set i (min x y)=mzT a b (i+1):=by
 have hi:=(e9k.1 hx).1;unfold mzT;have hl:((List.zipWith min a b).take i).length=i:=by simp;omega
 have hz:(List.zipWith min a b)[i]?=some (min x y):=by rw[List.getElem?_zipWith,hx,hy]
 have hd:a.drop i=x::a.drop (i+1):=by rw[←List.getElem_cons_drop hi,(e9k.1 hx).2]
 rw[List.set_append_right _ _ (by omega),hl,Nat.sub_self,hd,List.set_cons_zero,List.take_add_one,hz,Option.toList_some,e9o]
 try rfl
theorem d7a(l:List Nat)(i z:Nat):(l.map u8R).set i [AV.int .u8 z]=(l.set i z).map u8R:=by rw[f3y];rfl
theorem d6k(ins sts bi bs:List Nat)(h1:ins.length=bi.length)(h2:sts.length=bs.length)(hl:ins.length+sts.length<100000) :
 sem L.env Mf 100 [.yfn 0,.ptr 2 0 0] (mrH (bi++bs) ins.length sts.length (ins.map u8R) (sts.map u8R))=some (.tuple [],mrH (bi++bs) ins.length sts.length ((List.zipWith min ins bi).map u8R) ((List.zipWith min sts bs).map u8R)):=by
 suffices hs:∃r:AV×a02,(r=(.tuple [],mrH (bi++bs) ins.length sts.length ((List.zipWith min ins bi).map u8R) ((List.zipWith min sts bs).map u8R)))∧sem L.env Mf 100 [.yfn 0,.ptr 2 0 0] (mrH (bi++bs) ins.length sts.length (ins.map u8R) (sts.map u8R))=some r by obtain⟨r,rfl,h3⟩:=hs;exact h3
 have g1:=a4y (bi++bs);have jD:∀(X Y:List Nat) (keep:List Nat) (F F':Frm),a1i keep F=F'→a08 (F'.map (·.2))=[0,2]→gcD 5 keep F (mrH (bi++bs) ins.length sts.length (X.map u8R) (Y.map u8R))=some (F',mrH (bi++bs) ins.length sts.length (X.map u8R) (Y.map u8R)):=λX Y keep F F' hk hF=>
  d0v rfl hk (by rw[hF];intro b hb;unfold mrH;simp at hb;simp;omega) (by rw[hF];simp) (λb c hc=>by
   unfold mrH at hc⊢
   match b with
   |0=>simp[a01,a0o,a9j,refs]at hc;simp;omega
   |1=>simp[a01,a0o,a08,refs,g1]at hc
   |2=>simp[a01,a0o,a08,refs]at hc;simp;omega
   |3=>simp only[a01,f1q,f1p,f3n,a0o,b7s]at hc;simp at hc
   |4=>simp only[a01,f1q,f1p,f3n,a0o,b7s]at hc;simp at hc
   |b+5=>simp[a01,a0o]at hc) (by
   unfold mrH;have e1:=b7s X;have e2:=b7s Y;simp only[f4c,List.flatMap_nil,a0o,e1,e2,g1,a9j,refs,a08,e9n,e9q];simp)
 have bE:(bi++bs).length=ins.length+sts.length:=by rw[f1o];omega
 (refine svE Tryz.f100 ?_;simp only[Tryz.f100,gS])
 rw[show(mrH (bi++bs) ins.length sts.length (ins.map u8R) (sts.map u8R)).length=5 from rfl];unfold mrH
 (repeat first|simp only[ww]|(apply xa;simp+decide only[go_sem];rfl;kernel_rfl))
 refine a1x kp100_0 (λq F H1=>∃i:Nat,q=ins.length-i∧i≤ins.length∧F=[(0,.yfn 0),(1,.ptr 2 0 0),(7,.int .i64 ins.length),(8,.int .i64 i)]∧H1=mrH (bi++bs) ins.length sts.length ((mzT ins bi i).map u8R) (sts.map u8R)) ins.length ?_ ?_
 ·exact⟨_,_,by rw[←b27 ins bi] ; exact jD (mzT ins bi 0) sts _ _ _ (by simp+decide only[go_sem]<;>rfl) (by simp+decide only[go_sem]),0,rfl,f0h _,by rw[b27];rfl,rfl⟩
 ·rintro q F H1 ⟨i,rfl,hi,rfl,rfl⟩
  have cJ:=c9l (a:=ins) (b:=bi) (by omega) i;by_cases ag:i<ins.length
  ·obtain⟨x,hx⟩:∃x,ins[i]?=some x:=⟨_,z9e ag⟩
   obtain⟨y,hy⟩:∃y,bi[i]?=some y:=⟨_,z9e (by omega)⟩
   have gH:(bi++bs)[i]?=some y:=by rw[f0i (by omega)];exact hy
   have hg:=c9m (b:=bi) (by omega) hx;have gR:((mzT ins bi i).map u8R)[i]?=some [.int .u8 x]:=by rw[f0d,hg];rfl
   have aw:=e50 false (bi++bs) ins.length sts.length ((mzT ins bi i).map u8R) (sts.map u8R) i i x y (b8f _) gR gH;rw[d7a,c9k (by omega) hx hy]at aw;have c1:(i:Int)<ins.length:=by omega
   have hw:=wI1 (n:=i) (by omega);have bd:ins.length≤(mzT ins bi i).length:=by omega
   unfold mrH at aw⊢
   (repeat first|simp only[ww]|(apply xa;simp+decide only[go_sem,c1,ag,aw,hw,bd,c11];rfl;kernel_rfl))
   refine a0p (ins.length-(i+1)) (by omega) ⟨_,_,jD (mzT ins bi (i+1)) sts _ _ _ (by simp+decide only[go_sem]<;>rfl) (by simp+decide only[go_sem]),i+1,rfl,ag,rfl,rfl⟩
  ·obtain rfl:i=ins.length:=by omega
   have c1:¬(ins.length:Int)<ins.length:=by omega
   rw[c2d (by omega)]at *;have cJ:=c2d (a:=ins) (b:=bi) (by omega);generalize hZ:List.zipWith min ins bi=Z at *;unfold mrH
   (repeat first|simp only[ww]|(apply xa;simp+decide only[go_sem,c1];rfl;kernel_rfl))
   refine a1x kp100_2 (λq F H1=>∃j:Nat,q=sts.length-j∧j≤sts.length∧F=[(0,.yfn 0),(1,.ptr 2 0 0),(22,.int .i64 sts.length),(23,.int .i64 j)]∧H1=mrH (bi++bs) ins.length sts.length (Z.map u8R) ((mzT sts bs j).map u8R)) sts.length ?_ ?_
   ·exact⟨_,_,by rw[←b27 sts bs] ; exact jD Z (mzT sts bs 0) _ _ _ (by simp+decide only[go_sem]<;>rfl) (by simp+decide only[go_sem]),0,rfl,f0h _,by rw[b27];rfl,rfl⟩
   ·rintro q F H1 ⟨j,rfl,hj,rfl,rfl⟩
    have tw:=c9l (a:=sts) (b:=bs) (by omega) j;by_cases cV:j<sts.length
    ·obtain⟨x,hx⟩:∃x,sts[j]?=some x:=⟨_,z9e cV⟩
     obtain⟨y,hy⟩:∃y,bs[j]?=some y:=⟨_,z9e (by omega)⟩
     have gH:(bi++bs)[ins.length+j]?=some y:=by rw[h1,f1n (by omega),f5t];exact hy
     have hg:=c9m (b:=bs) (by omega) hx;have gR:((mzT sts bs j).map u8R)[j]?=some [.int .u8 x]:=by rw[f0d,hg];rfl
     have aw:=e4z true (bi++bs) ins.length sts.length (Z.map u8R) ((mzT sts bs j).map u8R) (ins.length+j) j x y (b8f _) gR gH;rw[d7a,c9k (by omega) hx hy]at aw;have c2:(j:Int)<sts.length:=by omega
     have hw:=wI1 (n:=j) (by omega);have e7:IntKind.i64.wrap ((ins.length:Int)+(j:Int))=((ins.length+j:Nat):Int):=by rw[w64 (by omega) (by omega)];omega
     have dX:sts.length≤(mzT sts bs j).length:=by omega
     unfold mrH at aw⊢
     (repeat first|simp only[ww]|(apply xa;simp+decide only[go_sem,c2];rfl;kernel_rfl))
     (repeat first|simp only[ww]|((with_reducible first|apply xs2|apply xI);(·simp+decide only[go_sem,cV,aw,hw,e7,dX,c11];rfl);with_reducible first|apply xT|apply xF|(·kernel_rfl)))
     refine a0p (sts.length-(j+1)) (by omega) ⟨_,_,jD Z (mzT sts bs (j+1)) _ _ _ (by simp+decide only[go_sem]<;>rfl) (by simp+decide only[go_sem]),j+1,rfl,cV,rfl,rfl⟩
    ·obtain rfl:j=sts.length:=by omega
     have c2:¬(sts.length:Int)<sts.length:=by omega
     rw[c2d (by omega)];unfold mrH
     (repeat first|simp only[ww]|(apply xa;simp+decide only[go_sem,c2];rfl;kernel_rfl))
     refine a8r (vs:=[]) (r:=(_,_)) (by simp+decide only[go_sem]) ?_ rfl;have e1:=λπ=>c8x π Z;have e2:=λπ=>c8x π (List.zipWith min sts bs);have e3:=λπ=>b0g π (bi++bs);simp+decide only[go_sem,a10,e1,e2,e3,a66]<;>rfl
def a7o(a b:Cb):Cb:=⟨some (some a.ins.length),List.zipWith min a.ins b.ins,some (some a.sts.length),List.zipWith min a.sts b.sts⟩
theorem d6i(n m:Nat)(X Y:List (List AV))(hX:FlatR X)(hY:FlatR Y):sem L.env Mf 51 [.agg [.slice 0 0 n (some n),.slice 1 0 m (some m)]] [some (.row 1 X),some (.row 1 Y)] =
 some (.func (.func 100) [] [.ptr 2 0 0],[some (.row 1 X),some (.row 1 Y),some (.row 2 [[.slice 0 0 n (some n),.slice 1 0 m (some m)]])]):=by
 (refine sv Tryz.f51 ?_;simp only[Tryz.f51,gS])
 (repeat first|simp only[ww]|(apply xa;simp+decide only[go_sem];rfl;kernel_rfl))
 (apply fqb;simp+decide only[go_sem,a10]<;>rfl)
theorem c7a(n m:Nat)(X Y:List (List AV))(hX:FlatR X)(hY:FlatR Y)(a b c d e f g:Option AObj) :
 a09 L.env false (sem L.env Mf) (.func (.func 51) [] []) [.agg [.slice 5 0 n (some n),.slice 6 0 m (some m)]] [a,b,c,d,e,some (.row 1 X),some (.row 1 Y),f,g] =
 some (.func (.func 100) [] [.ptr 9 0 0],[a,b,c,d,e,some (.row 1 X),some (.row 1 Y),f,g,some (.row 2 [[.slice 5 0 n (some n),.slice 6 0 m (some m)]])],[5,6]):=by
 have h1:=a0e hX;have h2:=a0e hY;have h3:=λπ=>a0b π hX;have h4:=λπ=>a0b π hY;refine b8n (by kernel_rfl) (by kernel_rfl) rfl ((a12 (sem L.env Mf 51) [.agg [.slice 5 0 n (some n),.slice 6 0 m (some m)]] _ (σ:=[5,6]) (by simp+decide only[go_sem,h1,h2]) rfl rfl (ap:=[.agg [.slice 0 0 n (some n),.slice 1 0 m (some m)]]) rfl (H0:=_) (by simp only[a1k,e12,e9p,a01,f1q,f1p,f3n,f0e,a0g,h3,h4]<;>rfl) (d6i n m X Y hX hY)).trans ?_) (by simp);simp+decide only[go_sem,h3,h4]<;>rfl
theorem e4w(a b:Cb)(h:Shp a b)(hc:a8o a b=true):sem L.env Mf 40 [a.enc,b.enc] []=some (.tuple [(a7o a b).enc,.int .i64 0],[]):=by
 have hl:=h.okp.1;have gO:=h.okq.1;have hi:=h.ins;have hs:=h.sts;have bG:=c19 (d:=false) (p:=a) (q:=b) (hp:=h.okp) (hq:=h.okq) (h1:=h.ins) (h2:=h.sts);have nM:=b4f (d:=false) (p:=a) (q:=b) (h:=h);rw[hc]at nM;have l4:=λH=>c40 (d:=true) H a (by unfold Cb.n;omega);have bF:=λH=>c0s (d:=true) H b (by omega);have tV:=λx y z u v f g=>c7a a.ins.length a.sts.length (a.ins.map u8R) (a.sts.map u8R) (b8f _) (b8f _) x y z u v f g;have cN:=d6k a.ins a.sts b.ins b.sts hi hs (by omega);unfold mrH at cN;have hu:=a4y (b.ins++b.sts);have kF:=λπ=>b0g π (b.ins++b.sts);have r1:=λπ=>c8x π a.ins;have r2:=λπ=>c8x π a.sts;have r3:=λπ=>c8x π (List.zipWith min a.ins b.ins);have r4:=λπ=>c8x π (List.zipWith min a.sts b.sts);have q1:=b7s a.ins;have q2:=b7s a.sts;have bL:∀x y z u v w,a1r (sem L.env Mf 100) [.yfn 10,.ptr 9 0 0] [x,y,z,u,v,some (.row 1 (a.ins.map u8R)),some (.row 1 (a.sts.map u8R)),w,some (.row 1 [[slU (b.ins++b.sts)]]),some (.row 2 [[.slice 5 0 a.ins.length (some a.ins.length),.slice 6 0 a.sts.length (some a.sts.length)]]),some (.yloop 4000000 [(8,.ptr 8 0 0),(7000000,.junk)] .ready)] =
  some (.tuple [],[x,y,z,u,v,some (.row 1 ((List.zipWith min a.ins b.ins).map u8R)),some (.row 1 ((List.zipWith min a.sts b.sts).map u8R)),w,some (.row 1 [[slU (b.ins++b.sts)]]),some (.row 2 [[.slice 5 0 a.ins.length (some a.ins.length),.slice 6 0 a.sts.length (some a.sts.length)]]),some (.yloop 4000000 [(8,.ptr 8 0 0),(7000000,.junk)] .ready)],[10,8,9,5,6]):=by
  intro x y z u v w;refine(a12 (sem L.env Mf 100) [.yfn 10,.ptr 9 0 0] _ (σ:=[10,8,9,5,6]) (by simp+decide only[go_sem,hu,q1,q2]) rfl rfl (ap:=[.yfn 0,.ptr 2 0 0]) rfl (H0:=_) (by simp only[a1k,e12,e9p,a01,f1q,f1p,f3n,f0e,a0g,kF,r1,r2]<;>rfl) cN).trans ?_;simp+decide only[go_sem,kF,r3,r4]<;>rfl
 unfold e7a at l4;unfold a7o Cb.all at *;unfold Cb.enc Cb.cells at *;dsimp only at *
 (refine sv Tryz.f40 ?_;simp only[Tryz.f40,gS])
 (repeat first|simp only[ww]|(apply xa;simp+decide only[go_sem,bG,nM];rfl;kernel_rfl))
 (repeat first|simp only[ww]|((with_reducible first|apply xs2|apply xI);(·simp+decide only[go_sem,l4,bF,b9k,c8h,c3p];rfl);with_reducible first|apply xT|apply xF|(·kernel_rfl)))
 (repeat first|simp only[ww]|(apply xa;simp+decide only[go_sem,tV];rfl;kernel_rfl))
 refine d8l kp40_0 (by simp+decide only[go_sem]<;>rfl) rfl (by kernel_rfl) (bL _ _ _ _ _ _) ?_;show bk 0 _ .normal _ [_,_,_,_,_,_,_,_,_,_,none]
 (repeat first|simp only[ww]|(apply xa;simp+decide only[go_sem];rfl;kernel_rfl))
 have t1:List.take a.ins.length ((List.zipWith min a.ins b.ins).map u8R)=(List.zipWith min a.ins b.ins).map u8R:=f0f (by simp;omega);have t2:List.take a.sts.length ((List.zipWith min a.sts b.sts).map u8R)=(List.zipWith min a.sts b.sts).map u8R:=f0f (by simp;omega);have k1:a.ins.length≤min a.ins.length b.ins.length:=by omega
 have k2:a.sts.length≤min a.sts.length b.sts.length:=by omega
 (apply fqb;simp+decide only[go_sem,t1,t2,k1,k2,f2k,c11,List.length_zipWith]<;>rfl)
theorem d4a{d:Bool}(H:a02)(a b:Cb)(h:Shp a b)(hc:a8o a b=true):a09 L.env d (sem L.env Mf) (.func (.func 40) [] []) [a.enc,b.enc] H=some (.tuple [(a7o a b).enc,.int .i64 0],H,[]):=a04 (by kernel_rfl) (by kernel_rfl) rfl (by simp[a08,a2g]) (e4w a b h hc) (by simp[refs,a08,a2g])
theorem a3j(p:Cb):FlatR [p.cells]:=by unfold Cb.cells;exact FlatR.cons (by simp+decide only[go_sem]) FlatR.nil
theorem c0t(l:List Cb):FlatR (l.map Cb.cells):=FlatR.map λp=>by unfold Cb.cells;simp+decide only[go_sem]
theorem d3w(l:List Cb):(l.map Cb.cells).flatMap a08=[]:=a0e (c0t l)
theorem e2p(π:Nat→Option Nat)(l:List Cb):(l.map Cb.cells).map (λr=>r.map (ren π))=l.map Cb.cells:=a0b π (c0t l)
theorem e52(p q:Cb)(h:Shp p q):sem L.env Mf 37 [q.enc,.ptr 0 0 0] [some (.row 2 [p.cells])]=some (.bool (a8o p q),[some (.row 2 [p.cells])]):=by
 have hc:=b4f (d:=false) (p:=p) (q:=q) (h:=h);unfold Cb.enc at hc⊢;unfold Cb.cells at hc⊢
 (refine sv Tryz.f37 ?_;simp only[Tryz.f37,gS])
 (repeat first|simp only[ww]|(apply xa;simp+decide only[go_sem,hc];rfl;kernel_rfl))
 (apply fqb;simp+decide only[go_sem]<;>rfl)
theorem d4d(p q:Cb)(h:Shp p q)(X:Option AObj):a09 L.env false (sem L.env Mf) (.func (.func 37) [] [.ptr 1 0 0]) [q.enc] [X,some (.row 2 [p.cells])]=some (.bool (a8o p q),[X,some (.row 2 [p.cells])],[1]):=a1q (fs:=[]) (cs:=[.ptr 1 0 0]) (args:=[q.enc,.ptr 1 0 0]) (b:=1) (by kernel_rfl) (by kernel_rfl) rfl rfl (a0f (a3j p)) (FlatO.row (a3j p)) (by simp[a08,refs,a2g]) (ap:=[q.enc,.ptr 0 0 0]) (by have:=a0x (a4m [1]) _ (a2g q);simp only[e12,e9p,this];rfl) (e52 p q h) rfl
def e35:Option Nat→Int|none=>-1|some k=>k
theorem e0m(p:Cb)(l:List Cb)(h:∀q∈l,Shp p q)(hl:l.length≤1000):sem L.env Mf 36 [.slice 0 0 l.length none,.func (.func 37) [] [.ptr 1 0 0]] [some (.row 2 (l.map Cb.cells)),some (.row 2 [p.cells])] =
 some (.int .i64 (e35 (l.findIdx? (a8o p))),[some (.row 2 (l.map Cb.cells)),some (.row 2 [p.cells])]):=by
 suffices hs:∃r:AV×a02,(r=(.int .i64 (e35 (l.findIdx? (a8o p))),[some (.row 2 (l.map Cb.cells)),some (.row 2 [p.cells])]))∧sem L.env Mf 36 [.slice 0 0 l.length none,.func (.func 37) [] [.ptr 1 0 0]] [some (.row 2 (l.map Cb.cells)),some (.row 2 [p.cells])]=some r by obtain⟨r,rfl,h3⟩:=hs;exact h3
 have hp:=a3j p;have kX:=a0e hp;have cI:=λπ=>a0b π hp;have cR:=λq hq X=>d4d p q hq X;generalize qN:p.cells=PC at *
 (refine svE Tryz.f36 ?_;simp only[Tryz.f36,gS])
 (repeat first|simp only[ww]|(apply xa;simp+decide only[go_sem];rfl;kernel_rfl))
 refine a1x kp36_0 (λq F H1=>∃i:Nat,q=l.length-i∧i≤l.length∧F=[(0,.slice 0 0 l.length none),(1,.func (.func 37) [] [.ptr 1 0 0]),(7,.int .i64 l.length),(8,.int .i64 i)]∧H1=[some (.row 2 (l.map Cb.cells)),some (.row 2 [PC])]∧∀j q,j<i→l[j]?=some q→a8o p q=false) l.length ?_ ?_
 ·refine⟨_,_,?_,0,rfl,f0h _,rfl,rfl,λj q hj=>by omega⟩
  (simp+decide only[go_sem,a03,a00,d3w,e2p,kX,cI]<;>rfl)<;>rfl
 ·rintro n F H1 ⟨i,rfl,hi,rfl,rfl,bU⟩
  by_cases ag:i<l.length
  ·obtain⟨q,hq⟩:∃q,l[i]?=some q:=⟨_,z9e ag⟩
   have oJ:=h q (c10 hq);have aw:a09 L.env false (sem L.env Mf) (.func (.func 37) [] [.ptr 1 0 0]) [.agg [sl q.ci (q.ins.map u8R),sl q.cs (q.sts.map u8R)]] [some (.row 2 (l.map Cb.cells)),some (.row 2 [PC])]=some (.bool (a8o p q),[some (.row 2 (l.map Cb.cells)),some (.row 2 [PC])],[1]):=cR q oJ _;have hg:(l.map Cb.cells)[i]?=some [sl q.ci (q.ins.map u8R),sl q.cs (q.sts.map u8R)]:=by rw[f0d,hq];rfl
   have c1:(i:Int)<l.length:=by omega
   have hw:=wI1 (n:=i) (by omega);by_cases hb:a8o p q=true
   ·rw[hb]at aw;have hf:l.findIdx? (a8o p)=some i:=by
     rw[f3p];refine⟨ag,by rw[(e9k.1 hq).2];exact hb,λj hj=>?_⟩;have:=bU j l[j] hj (z9e (by omega));rw[this];simp
    (repeat first|simp only[ww]|(apply xa;simp+decide only[go_sem,c1,ag,hg,aw,c11];rfl;kernel_rfl))
    refine a1v (vs:=[.int .i64 i]) (r:=(_,_)) (by simp+decide only[go_sem]) (by simp+decide only[go_sem,a10,e2p,cI]<;>rfl) ?_;rw[hf];rfl
   ·have hb:a8o p q=false:=by simpa using hb
    rw[hb]at aw
    (repeat first|simp only[ww]|(apply xa;simp+decide only[go_sem,c1,ag,hg,aw,hw,c11];rfl;kernel_rfl))
    refine a0p (l.length-(i+1)) (by omega) ⟨_,_,?_,i+1,rfl,ag,rfl,rfl,λj q' hj fk=>?_⟩
    ·(simp+decide only[go_sem,a03,a00,d3w,e2p,kX,cI]<;>rfl)<;>rfl
    ·rcases Nat.lt_succ_iff_lt_or_eq.1 hj with h1|rfl
     ·exact bU j q' h1 fk
     ·rw[hq]at fk;cases fk;exact hb
  ·obtain rfl:i=l.length:=by omega
   have c1:¬(l.length:Int)<l.length:=by omega
   have hf:l.findIdx? (a8o p)=none:=by rw[List.findIdx?_eq_none_iff];intro q hq;obtain⟨j,hj,rfl⟩:=List.getElem_of_mem hq;exact bU j l[j] hj (z9e hj)
   (repeat first|simp only[ww]|(apply xa;simp+decide only[go_sem,c1];rfl;kernel_rfl))
   refine a8r (vs:=[.int .i64 (-1)]) (r:=(_,_)) (by simp+decide only[go_sem]) (by simp+decide only[go_sem,a10,e2p,cI]<;>rfl) ?_;rw[hf];rfl
theorem d58(p:Cb):sem L.env Mf 36 [.nilslice,.func (.func 37) [] [.ptr 0 0 0]] [some (.row 2 [p.cells])]=some (.int .i64 (-1),[some (.row 2 [p.cells])]):=by
 have hp:=a3j p;have kX:=a0e hp;have cI:=λπ=>a0b π hp;generalize qN:p.cells=PC at *
 (refine sv Tryz.f36 ?_;simp only[Tryz.f36,gS])
 (repeat first|simp only[ww]|(apply xa;simp+decide only[go_sem];rfl;kernel_rfl))
 refine a1x kp36_0 (λq F H1=>F=[(0,.nilslice),(1,.func (.func 37) [] [.ptr 0 0 0]),(7,.int .i64 0),(8,.int .i64 0)]∧H1=[some (.row 2 [PC])]) 0 ?_ ?_
 ·refine⟨_,_,?_,rfl,rfl⟩
  (simp+decide only[go_sem,a03,a00,kX,cI]<;>rfl)<;>rfl
 ·rintro q F H1 ⟨rfl,rfl⟩
  (repeat first|simp only[ww]|(apply xa;simp+decide only[go_sem];rfl;kernel_rfl))
  (apply fqb;simp+decide only[go_sem,cI]<;>rfl)
structure Cb.sh(n m:Nat)(p:Cb):Prop where
 ok:p.ok
 ins:p.ins.length=n
 sts:p.sts.length=m
theorem Cb.sh.two{n m:Nat}{p q:Cb}(h:p.sh n m)(k:q.sh n m):Shp p q:=⟨h.ok,k.ok,by rw[h.ins,k.ins],by rw[h.sts,k.sts]⟩
theorem d9i{n m:Nat}{p:Cb}(h:p.sh n m):(b0m p).sh n m:=⟨h.ok,h.ins,h.sts⟩
theorem c9n{n m:Nat}{p q:Cb}(h:p.sh n m)(k:q.sh n m):(a7o p q).sh n m:=by
 have hi:=h.ins;have hs:=h.sts;have ki:=k.ins;have ks:=k.sts;have ho:=h.ok.1;refine⟨⟨by simp[a7o];omega,λv hv=>?_⟩,by simp[a7o];omega,by simp[a7o];omega⟩;have hp:=h.ok.2;unfold Cb.all a7o at hv;simp only[f2w]at hv;rcases hv with hv|hv
 ·obtain⟨i,hi,rfl⟩:=List.getElem_of_mem hv;rw[List.getElem_zipWith];have:p.ins[i]'(by simp at hi;omega)≤2:=hp _ (by unfold Cb.all;simp);omega
 ·obtain⟨i,hi,rfl⟩:=List.getElem_of_mem hv;rw[List.getElem_zipWith];have:p.sts[i]'(by simp at hi;omega)≤2:=hp _ (by unfold Cb.all;simp);omega
def b3b(s:List Cb×List (List Nat))(i:Nat)(p:Cb):List Cb×List (List Nat):=match s.1.findIdx? (a8o p)with
 |none=>(s.1++[b0m p],s.2++[[i]])
 |some k=>(s.1.set k (a7o (s.1.getD k p) p),s.2.set k (s.2.getD k []++[i]))
def a7p(ps:List Cb):Nat→List Cb×List (List Nat)
 |0=>([],[])
 |i+1=>match ps[i]? with
  |some p=>b3b (a7p ps i) i p
  |none=>a7p ps i
theorem c04{ps:List Cb}{i:Nat}{p:Cb}(h:ps[i]?=some p):a7p ps (i+1)=b3b (a7p ps i) i p:=by simp only[a7p,h]
structure MInv(n m i:Nat)(s:List Cb×List (List Nat)):Prop where
 len:s.1.length=s.2.length
 le:s.1.length≤i
 sh:∀q∈s.1,q.sh n m
 ne:∀g∈s.2,g≠[]∧g.length≤i
theorem MInv.step{n m i:Nat}{s:List Cb×List (List Nat)}{p:Cb}(h:MInv n m i s)(hp:p.sh n m):MInv n m (i+1) (b3b s i p):=by
 unfold b3b;split
 ·refine⟨by simp[h.len],by simp;exact h.le,λq hq=>?_,λg hg=>?_⟩
  ·rcases f2w.1 hq with hq|hq
   ·exact h.sh q hq
   ·simp at hq;subst hq;exact d9i hp
  ·rcases f2w.1 hg with hg|hg
   ·have:=h.ne g hg;exact⟨this.1,by omega⟩
   ·simp at hg;subst hg;exact⟨by simp,by simp⟩
 ·rename_i k hk;have bw:=(f3p.1 hk).1;refine⟨by simp[h.len],by simp;have:=h.le;omega,λq hq=>?_,λg hg=>?_⟩
  ·rcases f3j hq with hq|rfl
   ·exact h.sh q hq
   ·refine c9n ?_ hp;rw[f6t,z9e bw];exact h.sh _ (List.getElem_mem bw)
  ·rcases f3j hg with hg|rfl
   ·have:=h.ne g hg;exact⟨this.1,by omega⟩
   ·refine⟨by simp,?_⟩;have dB:k<s.2.length:=by rw[←h.len];exact bw
    rw[f6t,z9e dB];have:=(h.ne _ (List.getElem_mem dB)).2;simp;omega
theorem a9o{n m:Nat}{ps:List Cb}(h:∀p∈ps,p.sh n m):∀i,MInv n m i (a7p ps i)
 |0=>⟨rfl,f1u _,λq hq=>by simp[a7p]at hq,λg hg=>by simp[a7p]at hg⟩
 |i+1=>by
  have ih:=a9o h i;simp only[a7p];cases hp:ps[i]? with
  |none=>show MInv n m (i+1) (a7p ps i);exact⟨ih.len,by have:=ih.le;omega,ih.sh,λg hg=>⟨(ih.ne g hg).1,by have:=(ih.ne g hg).2;omega⟩⟩
  |some p=>exact ih.step (h p (c10 hp))
def foG(gs:List (List Nat)):List (List (List AV)):=gs.map (·.map a0d)
def cpG(gs:List (List Nat))(j:Nat):Option Nat:=match gs[j]? with|some [_]=>some 1|_=>none
inductive GS(outs:List Cb)(gs:List (List Nat)):a02→AV→AV→Prop
 |nil (h1:outs=[]) (h2:gs=[]):GS outs gs [] .nilslice .nilslice
 |some (H:a02) (w b:Nat) (al:Nat→Nat) (h1:outs≠[]) (h:Gw H w b al (cpG gs) (outs.map Cb.cells) (foG gs)):GS outs gs H (.slice w 0 outs.length none) (.slice b 0 gs.length none)
theorem d0n{H:a02}{w:Nat}(p:Cb)(l:List Cb)(h:∀q∈l,Shp p q)(hl:l.length≤1000)(hw:a01 H w=some (.row 2 (l.map Cb.cells))) :
 a09 L.env false (sem L.env Mf) (.func (.func 36) [] []) [.slice w 0 l.length none,.func (.func 37) [] [.ptr H.length 0 0]] (H++[some (.row 2 [p.cells])]) =
 some (.int .i64 (e35 (l.findIdx? (a8o p))),H++[some (.row 2 [p.cells])],[w,H.length]):=by
 have fI:=a0t hw;have h1:a01 (H++[some (.row 2 [p.cells])]) w=some (.row 2 (l.map Cb.cells)):=by rw[a1m (f7k fI)];exact hw
 have h2:a01 (H++[some (.row 2 [p.cells])]) H.length=some (.row 2 [p.cells]):=a28;have hc:=b03 (E:=L.env) (ah:=false) (call:=sem L.env Mf) (g:=36) (fs:=[]) (cs:=[]) (ar:=[.slice w 0 l.length none,.func (.func 37) [] [.ptr H.length 0 0]]) (by kernel_rfl) (by kernel_rfl) rfl (a:=w) (b:=H.length) (by omega) h1 h2 (a0f (c0t l)) (a0f (a3j p)) (FlatO.row (c0t l)) (FlatO.row (a3j p)) rfl
  (ap:=[.slice 0 0 l.length none,.func (.func 37) [] [.ptr 1 0 0]]) (by
   have au:¬w=H.length:=by omega
   simp[ren,b5s,a4m,f5s,au]) (e0m p l h hl) (FlatO.row (c0t l)) (FlatO.row (a3j p)) (v':=.int .i64 (e35 (l.findIdx? (a8o p)))) rfl
 rw[a5c h1,a5c h2]at hc;exact hc
theorem d5j(gs:List (List Nat)):(foG gs).length=gs.length:=by simp[foG]
theorem d0s{H:a02}{w b:Nat}{al:Nat→Nat}{cp sK:Nat→Option Nat}{ws:List (List AV)}{fo:List (List (List AV))}(h:Gw H w b al cp ws fo)(he:∀j,j<fo.length→cp j=sK j):Gw H w b al sK ws fo:=by
 refine⟨h.out,h.flat,⟨?_,h.two.sub,h.two.inj,h.two.flat⟩,h.wb,h.wi⟩;rw[h.two.top]
 congr 2
 unfold a24;apply f3g;intro j;rw[f1t,f1t];cases hf:fo[j]? with
 |none=>rfl
 |some f=>simp only[f0e,he j (e9k.1 hf).1]
theorem hS2{H L:a02}{a a':Nat}{o o':Option AObj}(i:Nat):a01 ((H.set a o).set a' o'++L) (H.length+i)=a01 L i:=by
 have:=a2x (H:=H.set a o) (L:=L) (a:=a') (o:=o') i
 rwa [f2r]at this
theorem hS3{H L:a02}{a a' a2:Nat}{o o' o2:Option AObj}(i:Nat):a01 (((H.set a o).set a' o').set a2 o2++L) (H.length+i)=a01 L i:=by
 have:=hS2 (H:=H.set a o) (L:=L) (a:=a') (o:=o') (a':=a2) (o':=o2) i
 rwa [f2r]at this
theorem lS2{H L:a02}{a a' c:Nat}{o o':Option AObj}(hc:c<H.length)(h1:c≠a)(h2:c≠a'):a01 ((H.set a o).set a' o'++L) c=a01 H c:=by rw[a1m (f7k (by simpa using hc)),a0z (f4j h2),a0z (f4j h1)]
theorem e19{gs:List (List Nat)}{i:Nat}(j:Nat)(hj:j<(foG gs).length+1):(if j=(foG gs).length then some 1 else cpG gs j)=cpG (gs++[[i]]) j:=by
 rw[d5j]at hj⊢;unfold cpG;by_cases h:j=gs.length
 ·subst h;rw[f1r rfl,f1n (f1u _),Nat.sub_self];rfl
 ·rw[f0j h,f0i (by omega)]
theorem a7a(gs:List (List Nat)):(foG gs).length=gs.length:=by simp[foG]
theorem c2y{gs:List (List Nat)}{j:Nat}{g:List Nat}(h:gs[j]?=some g):(foG gs)[j]?=some (g.map a0d):=by unfold foG;rw[f0d,h];rfl
theorem d1s(a b:List Nat)(i:Nat):b4h d5p a b i=b4h d5p b a i:=by
 unfold b4h
 induction a generalizing b i with
 |nil=>cases b<;>simp
 |cons x a ih=>
  cases b with
  |nil=>simp
  |cons y b=>
   cases i with
   |zero=>simp
   |succ i=>
    simp only[List.zip_cons_cons,List.take_succ_cons,List.countP_cons,ih b i]
    congr 1
    unfold d5p;rw[Nat.add_comm]
theorem b4i{p q:Cb}(h:Shp p q):a8o p q=a8o q p:=by unfold a8o Cb.n;rw[d1s,h.ins,h.sts]
theorem c4j{m:Nat}{keep:List Nat}{F F':Frm}{H:a02}(h:a1i keep F=a1i keep F'):gcD m keep F H=gcD m keep F' H:=by unfold gcD;rw[h]
def e47:List Cb→AV|[]=>.nilslice|a::r=>.islice ((a::r).map Cb.cells) (some (r.length+1))
def e48:List (List Nat)→AV|[]=>.nilslice|a::r=>.islice ((a::r).map λg=>[lsV g]) (some (r.length+1))
def cpC(gs:List (List Nat))(j i:Nat):Option Nat:=if i<j then(gs[i]?).map List.length else cpG gs i
theorem d1w:sem L.env Mf 41 [.nilslice] []=some (.nilslice,[]):=by
 (refine sv Tryz.f41 ?_;simp only[Tryz.f41,gS])
 (repeat first|simp only[ww]|(apply xa;simp+decide only[go_sem];rfl;kernel_rfl))
 (apply fqb;simp+decide only[go_sem]<;>rfl)
theorem d1y:sem L.env Mf 42 [.nilslice] []=some (.nilslice,[]):=by
 (refine sv Tryz.f42 ?_;simp only[Tryz.f42,gS])
 (repeat first|simp only[ww]|(apply xa;simp+decide only[go_sem];rfl;kernel_rfl))
 (apply fqb;simp+decide only[go_sem]<;>rfl)
theorem d69(n:Nat)(rows:List (List AV))(hf:FlatR rows):sem L.env Mf 41 [.slice 0 0 n none] [some (.row 2 rows)]=some (.slice 0 0 n (some n),[some (.row 2 rows)]):=by
 have h1:=λπ=>a0b π hf
 (refine sv Tryz.f41 ?_;simp only[Tryz.f41,gS])
 (repeat first|simp only[ww]|(apply xa;simp+decide only[go_sem];rfl;kernel_rfl))
 (apply fqb;simp+decide only[go_sem,h1]<;>rfl)
theorem c71{d:Bool}{H:a02}{b n:Nat}{rows:List (List AV)}(hf:FlatR rows)(hb:a01 H b=some (.row 2 rows)):a09 L.env d (sem L.env Mf) (.func (.func 41) [] []) [.slice b 0 n none] H=some (.slice b 0 n (some n),H,[b]):=by have h:=a3k (E:=L.env) (ah:=d) (call:=sem L.env Mf) (g:=41) (fs:=[]) (cs:=[]) (ar:=[.slice b 0 n none]) (H:=H) (b:=b) (by kernel_rfl) (by kernel_rfl) rfl hb (a0f hf) (FlatO.row hf) rfl (ap:=[AV.slice 0 0 n none]) (by simp only[e9q,e9n,e12,e9p,a1t]) (d69 n rows hf) (FlatO.row hf) (a4t b 0 _ n _);rw[a5c hb]at h;exact h
theorem d1u(n:Nat)(rows:List (List AV))(hf:FlatR rows):sem L.env Mf 35 [.slice 0 0 n (some n)] [some (.row 1 rows)]=some (.slice 0 0 n (some n),[some (.row 1 rows)]):=by
 have h1:=λπ=>a0b π hf
 (refine sv Tryz.f35 ?_;simp only[Tryz.f35,gS])
 (repeat first|simp only[ww]|(apply xa;simp+decide only[go_sem];rfl;kernel_rfl))
 (apply fqb;simp+decide only[go_sem,h1]<;>rfl)
theorem c73{d:Bool}{H:a02}{b n:Nat}{c:Option Nat}{rows:List (List AV)}(hc:c=none∨c=some n)(hf:FlatR rows)(hb:a01 H b=some (.row 1 rows)):a09 L.env d (sem L.env Mf) (.func (.func 35) [] []) [.slice b 0 n c] H=some (.slice b 0 n (some n),H,[b]):=by
 rcases hc with rfl|rfl
 ·exact b6g hf hb
 ·have h:=a3k (E:=L.env) (ah:=d) (call:=sem L.env Mf) (g:=35) (fs:=[]) (cs:=[]) (ar:=[.slice b 0 n (some n)]) (H:=H) (b:=b) (by kernel_rfl) (by kernel_rfl) rfl hb (a0f hf) (FlatO.row hf) rfl (ap:=[AV.slice 0 0 n (some n)]) (by simp only[e9q,e9n,e12,e9p,a1t]) (d1u n rows hf) (FlatO.row hf) (a4t b 0 _ n _);rw[a5c hb]at h;exact h
theorem e0z{v:AV}{H:a02}(hv:∀d,a3i H.length true d v=some v)(bg:∀x,∀y∈a0o (a01 H x),y<H.length):a10 false H.length v H=some (v,H):=by
 simp only[a10,f2z,hv]
 congr 2
 rw[f3a];apply List.ext_getElem (by simp);intro b h1 h2;simp only[List.getElem_map];cases ho:H[b]with
 |none=>rfl
 |some o=>
  have eC:a01 H b=some o:=by unfold a01;rw[z9e h2,ho];rfl
  simp only[f0e];rw[a8f (m:=H.length) (λc hc=>by unfold a1b;rw[c55,f2x hc];rfl) o (λc hc=>bg b c (by rw[eC];exact hc))]
theorem d6b(n:Nat)(H0:a02)(b':Nat)(R:List (List AV))(hR:a01 H0 b'=some (.row 1 R))(bg:∀x,∀y∈a0o (a01 H0 x),y<H0.length):sem L.env Mf 42 [.slice b' 0 n none] H0=some (.slice b' 0 n (some n),H0):=by
 have hb:=a0t hR;have hf:=e0z (v:=.slice b' 0 n (some n)) (H:=H0) (λd=>by simp only[b3z,f2x hb,f2m]) bg
 suffices hs:∃r:AV×a02,(r=(.slice b' 0 n (some n),H0))∧sem L.env Mf 42 [.slice b' 0 n none] H0=some r by obtain⟨r,rfl,h3⟩:=hs;exact h3
 (refine svE Tryz.f42 ?_;simp only[Tryz.f42,gS])
 (repeat first|simp only[ww]|(apply xa;simp+decide only[go_sem,hR];rfl;kernel_rfl))
 exact a8r (vs:=[.slice b' 0 n (some n)]) (r:=(_,_)) (by simp+decide only[go_sem]) hf rfl
theorem c97(c:Option (Option Nat))(ps:List Cb)(n m:Nat)(h:∀p∈ps,p.sh n m)(hl:ps.length≤100):∃r:AV×a02,r=(.tuple [e47 (a7p ps ps.length).1,e48 (a7p ps ps.length).2,.int .i64 0],[])∧sem L.env Mf 11 [sl c (ps.map Cb.cells)] []=some r:=by
 have c0:¬(4096:Int)<ps.length:=by omega
 (refine svE Tryz.f11 ?_;simp only[Tryz.f11,gS])
 (repeat first|simp only[ww]|(apply xa;simp+decide only[go_sem,c11,c0];rfl;kernel_rfl))
 refine a1x kp11_0 (λq F H1=>∃i:Nat,q=ps.length-i∧i≤ps.length∧F=[(0,sl c (ps.map Cb.cells)),(19,sl c (ps.map Cb.cells)),(20,.int .i64 ps.length),(21,.int .i64 i)]∧H1=[]) ps.length ?_ ?_
 ·refine⟨_,_,?_,0,rfl,f0h _,rfl,rfl⟩
  (simp+decide only[go_sem,a03,a00]<;>rfl)<;>rfl
 ·rintro q F H1 ⟨i,rfl,hi,rfl,rfl⟩
  by_cases ag:i<ps.length
  ·obtain⟨p,hp⟩:∃p,ps[i]?=some p:=⟨_,z9e ag⟩
   obtain⟨p0,kX⟩:∃p,ps[0]?=some p:=⟨_,z9e (by omega)⟩
   have hs:=h p (c10 hp);have g8:=h p0 (c10 kX);have bG:∀H,a09 L.env false (sem L.env Mf) (.func (.func 21) [] []) [.agg [sl p.ci (p.ins.map u8R),sl p.cs (p.sts.map u8R)]] H=some (.int .i64 0,H,[]):=λH=>a8q H p hs.ok;have hg:(ps.map Cb.cells)[i]?=some [sl p.ci (p.ins.map u8R),sl p.cs (p.sts.map u8R)]:=by rw[f0d,hp];rfl
   have oU:(ps.map Cb.cells)[0]?=some [sl p0.ci (p0.ins.map u8R),sl p0.cs (p0.sts.map u8R)]:=by rw[f0d,kX];rfl
   have fL:Ax.rowAt (ps.map Cb.cells) 0=some [sl p0.ci (p0.ins.map u8R),sl p0.cs (p0.sts.map u8R)]:=by unfold Ax.rowAt;simpa using oU
   have e1:((p.ins.length:Int)=p0.ins.length)=True:=f7k (by rw[hs.ins,g8.ins]);have e2:((p.sts.length:Int)=p0.sts.length)=True:=f7k (by rw[hs.sts,g8.sts]);have c1:(i:Int)<ps.length:=by omega
   have hw:=wI1 (n:=i) (by omega);have fm:0<ps.length:=by omega
   (repeat first|simp only[ww]|(apply xa;simp+decide only[go_sem,c1,ag,hg,bG,c11];rfl;kernel_rfl))
   (repeat first|simp only[ww]|((with_reducible first|apply xs2|apply xI);(·simp+decide only[go_sem,fL,fm,e1,e2,hw,c11];rfl);with_reducible first|apply xT|apply xF|(·kernel_rfl)))
   refine a0p (ps.length-(i+1)) (by omega) ⟨_,_,?_,i+1,rfl,ag,rfl,rfl⟩
   (simp+decide only[go_sem,a03,a00]<;>rfl)<;>rfl
  ·obtain rfl:i=ps.length:=by omega
   have c1:¬(ps.length:Int)<ps.length:=by omega
   have nv:=λi=>a9o h i
   (repeat first|simp only[ww]|(apply xa;simp+decide only[go_sem,c1,c11];rfl;kernel_rfl))
   refine a1x kp11_2 (λq F H1=>∃(i:Nat) (V1 V2:AV),q=ps.length-i∧i≤ps.length∧F=[(8,V1),(9,V2),(51,sl c (ps.map Cb.cells)),(52,.int .i64 ps.length),(53,.int .i64 i)]∧GS (a7p ps i).1 (a7p ps i).2 H1 V1 V2) ps.length ?_ ?_
   ·refine⟨_,_,?_,0,.nilslice,.nilslice,rfl,f0h _,rfl,.nil rfl rfl⟩
    (simp+decide only[go_sem,a03,a00]<;>rfl)<;>rfl
   ·rintro q F H1 ⟨i,V1,V2,rfl,hi,rfl,o5⟩
    by_cases ag:i<ps.length
    ·obtain⟨p,hp⟩:∃p,ps[i]?=some p:=⟨_,z9e ag⟩
     have hs:=h p (c10 hp);have hI:=nv i;have nh:=c04 hp;have hg:(ps.map Cb.cells)[i]?=some [sl p.ci (p.ins.map u8R),sl p.cs (p.sts.map u8R)]:=by rw[f0d,hp];rfl
     have rA:∀H,a09 L.env false (sem L.env Mf) (.func (.func 39) [] []) [.agg [sl p.ci (p.ins.map u8R),sl p.cs (p.sts.map u8R)],.nilslice] H=some (.tuple [.agg [sl (b0m p).ci ((b0m p).ins.map u8R),sl (b0m p).cs ((b0m p).sts.map u8R)],.int .i64 0],H,[]):=λH=>c5w H p hs.ok;have c1:(i:Int)<ps.length:=by omega
     have hw:=wI1 (n:=i) (by omega);have qN:p.cells=[sl p.ci (p.ins.map u8R),sl p.cs (p.sts.map u8R)]:=rfl;generalize aw:a7p ps i=st at *;obtain⟨outs,gs⟩:=st;dsimp only at o5 hI;have oh:=hI.len;have lL:=hI.le;dsimp only at oh lL;cases o5 with
     |nil h1 h2=>
      subst h1 h2;have bY:b3b ([],[]) i p=([b0m p],[[i]]):=rfl;have iL:a09 L.env false (sem L.env Mf) (.func (.func 36) [] []) [.nilslice,.func (.func 37) [] [.ptr 0 0 0]] [some (.row 2 [[sl p.ci (p.ins.map u8R),sl p.cs (p.sts.map u8R)]])]=some (.int .i64 (-1),[some (.row 2 [[sl p.ci (p.ins.map u8R),sl p.cs (p.sts.map u8R)]])],[0]):=a1q (b:=0) (by kernel_rfl) (by kernel_rfl) rfl rfl (a0f (a3j p)) (FlatO.row (a3j p)) rfl (ap:=[.nilslice,.func (.func 37) [] [.ptr 0 0 0]]) rfl (d58 p) rfl
      (repeat first|simp only[ww]|(apply xa;simp+decide only[go_sem,c1,ag,hg,iL,rA,hw,c11];rfl;kernel_rfl))
      have hG:=Gw.first (H1:=[some (.row 2 [[sl p.ci (p.ins.map u8R),sl p.cs (p.sts.map u8R)]]),some (.row 2 [(b0m p).cells]),some (.row 2 [(b0m p).cells]),some (.row 2 [(b0m p).cells]),some (.row 1 [[.int .i64 i]]),some (.row 1 [[.slice 4 0 1 (some 1)]]),some (.row 1 [[.slice 4 0 1 (some 1)]])])
       (w':=3) (b':=6) (x':=4) (x:=(b0m p).cells) (z:=a0d i) (q:=some 1) (by simpa[a08,refs,Cb.enc]using a2g (b0m p)) rfl rfl rfl rfl (by omega) (by omega) (by omega)
      refine a0p (ps.length-(i+1)) (by omega) ?_;refine hG.head ?_ ?_ ?_ ?_ (by simp) ?_
      ·intro x hx;simp+decide only[go_sem]at hx;simpa using hx
      ·simp+decide only[go_sem]<;>simp
      ·simp+decide only[go_sem]<;>simp
      ·simp+decide only[go_sem]<;>simp
      ·intro π w' b' aD H1 eo aL gZ;refine⟨i+1,.slice w' 0 1 none,.slice b' 0 1 none,rfl,ag,?_,?_⟩
       ·simp+decide only[go_sem,eo,aL]<;>rfl
       ·rw[nh,bY];exact .some H1 w' b' aD (by simp) (d0s gZ (λj hj=>by
         have:j=0:=by simpa[foG]using hj
         subst this;rfl))
     |some _ w b al h1 hG=>
      have dA:0<outs.length:=List.length_pos_iff.2 h1;have iL:=d0n p outs (λq hq=>hs.two (hI.sh q hq)) (by omega) hG.out;rw[qN]at iL;have fI:=a0t hG.out;have bE:=a0t hG.two.top;have i9:=hG.out;have lG:=hG.two.top;have mK:=eq_false hG.wb;have nO:=eq_false (f4j hG.wb);have dD:(a24 al (cpG gs) (foG gs)).length=gs.length:=by rw[a3o,a7a]
      cases dp:outs.findIdx? (a8o p)with
      |none=>
       rw[dp]at iL;have bY:b3b (outs,gs) i p=(outs++[b0m p],gs++[[i]]):=by unfold b3b;simp only[dp]
       have eg:e35 none = -1:=rfl;rw[eg]at iL;have r1:outs.length+1≤1000000000:=by omega
       have r2:gs.length+1≤1000000000:=by omega
       (repeat first|simp only[ww]|(apply xa;simp+decide only[go_sem,c1,ag,hg,iL,rA,hw,fI,bE,i9,lG,mK,nO,dD,r1,r2,a6p,f2r,c11,a2x,a28,a37,a1m,a57,a6e,a7u,a4f,a4e,e9o,f0k,e9q];rfl;kernel_rfl))
       refine a0p (ps.length-(i+1)) (by omega) ?_;refine(hG.new (w':=H1.length+3) (b':=H1.length+6) (x':=H1.length+4) (x:=(b0m p).cells) (z:=a0d i) (q:=some 1) (by simpa[a08,refs,Cb.enc]using a2g (b0m p)) rfl (by rw[hS2];rfl) (by rw[hS2];rfl) (by rw[hS2];rfl) (λc hc h2 h3=>lS2 hc h2 h3) (by omega) (by omega) (by omega) (by omega) (by omega) (by omega)).head ?_ ?_ ?_ ?_ (by rw[f1o,a7a];simp;omega) ?_
       ·intro x hx;simp+decide only[go_sem]at hx;simpa using hx
       ·simp+decide only[go_sem]<;>simp
       ·simp+decide only[go_sem]<;>simp
       ·simp+decide only[go_sem]<;>simp
       ·intro π w' b' aD H2 eo aL gZ;refine⟨i+1,.slice w' 0 (outs.length+1) none,.slice b' 0 (gs.length+1) none,rfl,ag,?_,?_⟩
        ·simp+decide only[go_sem,eo,aL]<;>rfl
        ·rw[nh,bY];have e1:outs.map Cb.cells++[(b0m p).cells]=(outs++[b0m p]).map Cb.cells:=by rw[f2o];rfl
         have e2:foG gs++[[a0d i]]=foG (gs++[[i]]):=by unfold foG;rw[f2o];rfl
         rw[e1,e2]at gZ;have bD:=GS.some (outs:=outs++[b0m p]) (gs:=gs++[[i]]) H2 w' b' aD (by simp) (d0s gZ (λj hj=>e19 j (by rw[a7a]at hj⊢;simpa using hj)));simpa using bD
      |some k=>
       rw[dp]at iL;obtain⟨bw,fP,_⟩:=f3p.1 dp;obtain⟨q,hq⟩:∃q,outs[k]?=some q:=⟨_,z9e bw⟩
       have pJ:outs[k]=q:=(e9k.1 hq).2;rw[pJ]at fP;obtain⟨g,mh⟩:∃g,gs[k]?=some g:=⟨_,z9e (by omega)⟩
       have oJ:=hI.sh q (c10 hq);have gT:=(hI.ne g (c10 mh)).1;have qg:=(hI.ne g (c10 mh)).2;have bY:b3b (outs,gs) i p=(outs.set k (a7o q p),gs.set k (g++[i])):=by unfold b3b;simp only[dp];rw[f6t,hq,f6t,mh];rfl
       have eg:e35 (some k)=(k:Int):=rfl;rw[eg]at iL;have hk0:¬(k:Int)<0:=by omega
       have kT:(outs.map Cb.cells)[k]?=some [sl q.ci (q.ins.map u8R),sl q.cs (q.sts.map u8R)]:=by rw[f0d,hq];rfl
       have dF:∀H,a09 L.env true (sem L.env Mf) (.func (.func 40) [] []) [.agg [sl q.ci (q.ins.map u8R),sl q.cs (q.sts.map u8R)],.agg [sl p.ci (p.ins.map u8R),sl p.cs (p.sts.map u8R)]] H =
        some (.tuple [.agg [sl (a7o q p).ci ((a7o q p).ins.map u8R),sl (a7o q p).cs ((a7o q p).sts.map u8R)],.int .i64 0],H,[]):=λH=>d4a H q p (oJ.two hs) (by rw[b4i (oJ.two hs)];exact fP)
       (repeat first|simp only[ww]|(apply xa;simp+decide only[go_sem,c1,ag,hg,iL,hk0,fI,bE,i9,lG,mK,nO,dD,f2r,c11,a2x,a28,a37,a1m,a57,a6e,a7u,a4f,a4e,e9o,f0k,e9q];rfl;kernel_rfl))
       (repeat first|simp only[ww]|((with_reducible first|apply xs3|apply xI);(·simp+decide only[go_sem,fI,bE,i9,lG,mK,nO,bw,kT,dF,f2r,c11,a2x,a28,a37,a1m,a57,a6e,a7u,a4f,a4e,e9o,f0k,e9q];rfl);first|with_reducible apply xT|with_reducible apply xF|(·repeat' (first|exact d4h|exact d3p|refine c9w ?_ ?_|refine d3o (by simp only[e9m,f0g];decide+kernel) ?_|refine d3q (d1z (by simp<;>omega) (by simp<;>omega) (by simp<;>omega)) ?_))))
       have eZ:=c2y mh;have kc:=a6f (al:=al) (cp:=cpG gs) eZ;have cK:k<gs.length:=by omega
       have lm:g.map a0d≠[]:=by simpa using gT
       obtain⟨s1,s2⟩:=hG.two.sub k _ eZ lm;have s3:=a0t s1;have s4:=hG.wi k _ eZ lm;have s5:=eq_false s4;have s6:=eq_false (f4j s4);have s7:=eq_false s2;have s8:=eq_false (f4j s2);have qv:∀j,j<(foG (gs.set k (g++[i]))).length→(if j=k then none else cpG gs j)=cpG (gs.set k (g++[i])) j:=by
        intro j hj;unfold cpG;rw[f2v];by_cases qb:k=j
        ·subst qb;simp only[f4b,cK];cases g with
         |nil=>exact absurd rfl gT
         |cons x t=>cases t<;>rfl
        ·rw[f0j (f4j qb),f0j qb]
       have fE:∀(H':a02),Gw H' w b (λi'=>if i'=k then H1.length+2 else al i') (λi'=>if i'=k then none else cpG gs i') ((outs.map Cb.cells).set k (a7o q p).cells) ((foG gs).set k (g.map a0d++[a0d i]))→
        ∃F1 H2,gcD 0 [8,9,51,52,53] [(8,AV.slice w 0 outs.length none),(9,.slice b 0 gs.length none),(51,sl c (ps.map Cb.cells)),(52,.int .i64 ps.length),(53,.int .i64 (i+1:Nat))] H'=some (F1,H2)∧
         (∃(i':Nat) (V1 V2:AV),ps.length-(i+1)=ps.length-i'∧i'≤ps.length∧F1=[(8,V1),(9,V2),(51,sl c (ps.map Cb.cells)),(52,.int .i64 ps.length),(53,.int .i64 i')]∧GS (a7p ps i').1 (a7p ps i').2 H2 V1 V2):=by
        intro H' gZ;refine gZ.head ?_ ?_ ?_ ?_ (by rw[f2r,a7a];omega) ?_
        ·intro x hx;simp+decide only[go_sem]at hx;simpa using hx
        ·simp+decide only[go_sem]<;>simp
        ·simp+decide only[go_sem]<;>simp
        ·simp+decide only[go_sem]<;>simp
        ·intro π w' b' aD H2 eo aL om;refine⟨i+1,.slice w' 0 outs.length none,.slice b' 0 gs.length none,rfl,ag,?_,?_⟩
         ·simp+decide only[go_sem,eo,aL]<;>rfl
         ·rw[nh,bY];have e1:(outs.map Cb.cells).set k (a7o q p).cells=(outs.set k (a7o q p)).map Cb.cells:=by rw[f3y]
          have e2:(foG gs).set k (g.map a0d++[a0d i])=foG (gs.set k (g++[i])):=by unfold foG;rw[f3y,f2o];rfl
          rw[e1,e2]at om;have bD:=GS.some (outs:=outs.set k (a7o q p)) (gs:=gs.set k (g++[i])) H2 w' b' aD (by intro e;exact h1 (by simpa using e)) (d0s om qv);simpa using bD
       have tA:(a7o q p).cells=[sl (a7o q p).ci ((a7o q p).ins.map u8R),sl (a7o q p).cs ((a7o q p).sts.map u8R)]:=rfl;have ng:a08 (a7o q p).cells=[]:=by simpa[a08,refs,Cb.enc]using a2g (a7o q p)
       cases g with
       |nil=>exact absurd rfl gT
       |cons x t=>
        cases t with
        |nil=>
         have lA:cpG gs k=some 1:=by unfold cpG;rw[mh]
         have aG:(a24 al (cpG gs) (foG gs))[k]?=some [.slice (al k) 0 1 (some 1)]:=by rw[kc,lA];rfl
         have s1:a01 H1 (al k)=some (.row 1 [[.int .i64 x]]):=s1;have r3:¬1+1≤1:=by omega
         (repeat first|simp only[ww]|(apply xa;simp+decide only[go_sem,cK,aG,s1,s3,s5,s6,s7,s8,hw,fI,bE,i9,lG,mK,nO,dD,r3,a6p,f2r,c11,a2x,a28,a37,a1m,a57,a6e,a7u,a4f,a4e,e9o,f0k,e9q];rfl;kernel_rfl))
         obtain⟨F1,H2,e1,e2⟩:=fE _ (hG.upd (k:=k) (n:=H1.length+2) (f:=[x].map a0d) (x:=(a7o q p).cells) (z:=a0d i) (H1:=(H1.set w (some (.row 2 ((outs.map Cb.cells).set k (a7o q p).cells)))).set b (some (.row 1 ((a24 al (cpG gs) (foG gs)).set k [.slice (H1.length+2) 0 2 none])))++[some (.row 2 [p.cells]),some (.row 1 [[.int .i64 i]]),some (.row 1 [[.int .i64 x],[.int .i64 i]])]) eZ ng rfl (by omega)
          (by rw[a1m (f7k (by simpa using fI)),a0z (f4j hG.wb),a3c fI]) (by rw[a1m (f7k (by simpa using bE)),a3c (by simpa using bE)];rfl) (by rw[hS2];rfl) (λc hc h2 h3 _=>lS2 hc h2 h3))
         exact a0p (ps.length-(i+1)) (by omega) ⟨F1,H2,(c4j (by simp+decide only[go_sem]<;>rfl)).trans e1,e2⟩
        |cons y t=>
         have lA:cpG gs k=none:=by unfold cpG;rw[mh]
         have aG:(a24 al (cpG gs) (foG gs))[k]?=some [.slice (al k) 0 (t.length+1+1) none]:=by rw[kc,lA];show some [AV.slice (al k) 0 ((a0d y::t.map a0d).length+1) none]=_;simp
         have sM:a01 H1 (al k)=some (.row 1 ([.int .i64 x]::[.int .i64 y]::t.map a0d)):=s1;have r3:t.length+1+1+1≤1000000000:=by simp only[e9m]at qg;omega
         (repeat first|simp only[ww]|(apply xa;simp+decide only[go_sem,cK,aG,sM,s3,s5,s6,s7,s8,hw,fI,bE,i9,lG,mK,nO,dD,r3,a6p,f2r,c11,e9m,a2x,a28,a37,a1m,a57,a6e,a7u,a4f,a4e,e9o,f0k,e9q];rfl;kernel_rfl))
         obtain⟨F1,H2,e1,e2⟩:=fE _ (hG.upd (k:=k) (n:=H1.length+2) (f:=(x::y::t).map a0d) (x:=(a7o q p).cells) (z:=a0d i) (H1:=((H1.set w (some (.row 2 ((outs.map Cb.cells).set k (a7o q p).cells)))).set (al k) none).set b (some (.row 1 ((a24 al (cpG gs) (foG gs)).set k [.slice (H1.length+2) 0 (t.length+1+1+1) none])))++[some (.row 2 [p.cells]),some (.row 1 [[.int .i64 i]]),some (.row 1 ([.int .i64 x]::[.int .i64 y]::(t.map a0d++[[.int .i64 i]])))]) eZ ng rfl (by omega)
          (by rw[a1m (f7k (by simpa using fI)),a0z (f4j hG.wb),a0z s4,a3c fI]) (by rw[a1m (f7k (by simpa using bE)),a3c (by simpa using bE)];simp) (by rw[hS3];rfl) (λc hc h2 h3 h5=>by rw[a1m (f7k (by simpa using hc)),a0z (f4j h3),a0z (f4j (h5 (by simp))),a0z (f4j h2)]))
         exact a0p (ps.length-(i+1)) (by omega) ⟨F1,H2,(c4j (by simp+decide only[go_sem]<;>rfl)).trans e1,e2⟩
    ·obtain rfl:i=ps.length:=by omega
     have c1:¬(ps.length:Int)<ps.length:=by omega
     have hI:=nv ps.length;generalize aw:a7p ps ps.length=st at *;obtain⟨outs,gs⟩:=st;dsimp only at o5 hI;have oh:=hI.len;have lL:=hI.le;dsimp only at oh lL;cases o5 with
     |nil h1 h2=>
      subst h1 h2;have k1:=λH=>a04 (E:=L.env) (ah:=false) (call:=sem L.env Mf) (g:=41) (fs:=[]) (cs:=[]) (ar:=[.nilslice]) (H:=H) (by kernel_rfl) (by kernel_rfl) rfl rfl d1w rfl;have k2:=λH=>a04 (E:=L.env) (ah:=false) (call:=sem L.env Mf) (g:=42) (fs:=[]) (cs:=[]) (ar:=[.nilslice]) (H:=H) (by kernel_rfl) (by kernel_rfl) rfl rfl d1y rfl
      (repeat first|simp only[ww]|(apply xa;simp+decide only[go_sem,c1];rfl;kernel_rfl))
      refine a1x kp11_4 (λq F H1=>F=[(8,.nilslice),(9,.nilslice),(101,.int .i64 0),(102,.int .i64 0)]∧H1=[]) 0 ?_ ?_
      ·refine⟨_,_,?_,rfl,rfl⟩
       (simp+decide only[go_sem,a03,a00]<;>rfl)<;>rfl
      ·rintro q F H1 ⟨rfl,rfl⟩
       (repeat first|simp only[ww]|(apply xa;simp+decide only[go_sem,k1,k2];rfl;kernel_rfl))
       refine a1v (vs:=[.nilslice,.nilslice,.int .i64 0]) (r:=(_,_)) (by simp+decide only[go_sem]) (by simp+decide only[go_sem,a10]<;>rfl) rfl
     |some _ w b al h1 hG=>
      (repeat first|simp only[ww]|(apply xa;simp+decide only[go_sem,c1];rfl;kernel_rfl))
      refine a1x kp11_4 (λq F H1=>∃(j w b:Nat) (al:Nat→Nat),q=gs.length-j∧j≤gs.length∧F=[(8,.slice w 0 outs.length none),(9,.slice b 0 gs.length none),(101,.int .i64 gs.length),(102,.int .i64 j)]∧Gw H1 w b al (cpC gs j) (outs.map Cb.cells) (foG gs)) gs.length ?_ ?_
      ·refine hG.head ?_ ?_ ?_ ?_ (by rw[a7a];omega) ?_
       ·intro x hx;simp+decide only[go_sem]at hx;simpa using hx
       ·simp+decide only[go_sem]<;>simp
       ·simp+decide only[go_sem]<;>simp
       ·simp+decide only[go_sem]<;>simp
       ·intro π w' b' aD H2 eo aL gZ;refine⟨0,w',b',aD,rfl,f0h _,?_,d0s gZ (λj _=>by simp[cpC])⟩;simp+decide only[go_sem,eo,aL]<;>rfl
      ·rintro q F H1 ⟨j,w,b,al,rfl,hj,rfl,hG⟩
       have fI:=a0t hG.out;have bE:=a0t hG.two.top;have lG:=hG.two.top;have dD:(a24 al (cpC gs j) (foG gs)).length=gs.length:=by rw[a3o,a7a]
       by_cases bu:j<gs.length
       ·obtain⟨g,gW⟩:∃g,gs[j]?=some g:=⟨_,z9e bu⟩
        have gT:=(hI.ne g (c10 gW)).1;have eZ:=c2y gW;have lm:g.map a0d≠[]:=by simpa using gT
        obtain⟨s1,s2⟩:=hG.two.sub j _ eZ lm;have aG:(a24 al (cpC gs j) (foG gs))[j]?=some [.slice (al j) 0 g.length (cpG gs j)]:=by rw[a6f eZ,d7i _ _ lm,c11];simp[cpC]
        have bL:=c73 (d:=false) (H:=H1) (b:=al j) (n:=g.length) (c:=cpG gs j) (by
         unfold cpG;rw[gW];cases g with
         |nil=>exact absurd rfl gT
         |cons x t=>cases t with
          |nil=>exact .inr rfl
          |cons y t=>exact .inl rfl) (b58 g) s1
        have d1:(j:Int)<gs.length:=by omega
        have hw:=wI1 (n:=j) (by omega)
        (repeat first|simp only[ww]|(apply xa;simp+decide only[go_sem,d1,bu,aG,bL,lG,bE,dD,hw];rfl;kernel_rfl))
        refine a0p (gs.length-(j+1)) (by omega) ?_;refine(hG.clip (j:=j) (c:=g.length) (H1:=H1.set b (some (.row 1 ((a24 al (cpC gs j) (foG gs)).set j [.slice (al j) 0 g.length (some g.length)])))) eZ (by rw[a3c bE,d7i _ _ lm,c11]) (λc hc=>a0z (f4j hc))).head ?_ ?_ ?_ ?_ (by rw[a7a];omega) ?_
        ·intro x hx;simp+decide only[go_sem]at hx;simpa using hx
        ·simp+decide only[go_sem]<;>simp
        ·simp+decide only[go_sem]<;>simp
        ·simp+decide only[go_sem]<;>simp
        ·intro π w' b' aD H2 eo aL gZ;refine⟨j+1,w',b',aD,rfl,bu,?_,d0s gZ (λi _=>?_)⟩
         ·simp+decide only[go_sem,eo,aL]<;>rfl
         ·unfold cpC;by_cases bB:i=j
          ·subst bB;rw[f1r rfl,f1r (by omega),gW];rfl
          ·rw[f0j bB];by_cases h2:i<j
           ·rw[f1r h2,f1r (by omega)]
           ·rw[f0j h2,f0j (by omega)]
       ·obtain rfl:j=gs.length:=by omega
        have d1:¬(gs.length:Int)<gs.length:=by omega
        have k1:=c71 (d:=false) (H:=H1) (b:=w) (n:=outs.length) (c0t outs) hG.out;obtain⟨H',σ,aD,k2,gZ,ai⟩:=c77 (E:=L.env) (d:=false) (call:=sem L.env Mf) (g:=42) (n:=gs.length) (c:=none) (c':=some gs.length) (by kernel_rfl) (by kernel_rfl) hG (by rw[a7a];omega) (λH0 b' R hR bg=>d6b gs.length H0 b' R hR bg)
        (repeat first|simp only[ww]|(apply xa;simp+decide only[go_sem,d1,k1,k2];rfl;kernel_rfl))
        have z1:=gZ.two.frz (some gs.length);rw[a7a]at z1;have z2:a3i 0 true (a58 (a01 H') 0 12) (.slice w 0 outs.length (some outs.length))=some (.islice (outs.map Cb.cells) (some outs.length)):=by have ht:List.take outs.length (outs.map Cb.cells)=outs.map Cb.cells:=f0f (by simp);have hf:=a1g (m:=0) (d:=a58 (a01 H') 0 11) (c0t outs);have ho:=gZ.out;simp+decide only[go_sem,ho,ht,hf,c11]<;>rfl
        refine a1v (vs:=[.slice w 0 outs.length (some outs.length),.slice b 0 gs.length (some gs.length),.int .i64 0]) (r:=(_,_)) (by simp+decide only[go_sem]) ?_ rfl;have jp:e47 outs = .islice (outs.map Cb.cells) (some outs.length):=by
         cases outs with
         |nil=>exact absurd rfl h1
         |cons x t=>rfl
        have r7:gs≠[]:=by intro e;rw[e]at oh;exact h1 (f6n oh)
        have tk:e48 gs = .islice (gs.map λg=>[lsV g]) (some gs.length):=by
         cases gs with
         |nil=>exact absurd rfl r7
         |cons x t=>rfl
        have tx:((foG gs).mapIdx λj f=>[slF (cpC gs gs.length j) f])=gs.map λg=>[lsV g]:=by
         apply f3g;intro j;rw[f1t,f0d];cases gW:gs[j]? with
         |none=>simp[foG,gW]
         |some g=>
          have bu:=(e9k.1 gW).1;rw[c2y gW];simp only[f0e,cpC,f1r bu,gW];cases g with
          |nil=>exact absurd rfl (hI.ne [] (c10 gW)).1
          |cons x t=>simp[slF,lsV]
        rw[tx]at z1;rw[jp,tk];show a10 false 0 _ H'=_;have hz:a3i 0 true (a58 (a01 H') 0 12) (.tuple [.slice w 0 outs.length (some outs.length),.slice b 0 gs.length (some gs.length),.int .i64 0])=some (.tuple [.islice (outs.map Cb.cells) (some outs.length),.islice (gs.map λg=>[lsV g]) (some gs.length),.int .i64 0]):=by simp+decide only[go_sem]at z1 z2;simp+decide only[go_sem,z1,z2]<;>rfl
        rw[b44,c9b,hz];rfl
theorem c27(H:a02)(c:Option (Option Nat))(ps:List Cb)(n m:Nat)(h:∀p∈ps,p.sh n m)(hl:ps.length≤100):a09 L.env false (sem L.env Mf) (.func (.func 11) [] []) [sl c (ps.map Cb.cells)] H=some (.tuple [e47 (a7p ps ps.length).1,e48 (a7p ps ps.length).2,.int .i64 0],H,[]):=by
 obtain⟨r,rfl,hr⟩:=c97 c ps n m h hl;have h1:∀l,refs (e47 l)=[]:=λl=>by cases l<;>rfl
 have h2:∀l,refs (e48 l)=[]:=λl=>by cases l<;>rfl
 exact a04 (by kernel_rfl) (by kernel_rfl) rfl (by simp[a08,a33]) hr (by simp[refs,a08,h1,h2])
def m3(l:List Nat):List Nat:=l.map (·% 3)
section
variable (a b:List Nat)(ha:a≠[])(hb:b≠[])(la:a.length≤1000)(lb:b.length≤1000)(ba:∀x∈a,x<256)(bb:∀x∈b,x<256)
end
theorem c3d(p:Cb):p.all.length=p.n:=by simp[Cb.all,Cb.n]
theorem c15{f:Nat→Nat→Bool}{a b:List Nat}{i:Nat}(ha:a.length=i):b4h f a b i=0↔∀(j x y:Nat),a[j]?=some x→b[j]?=some y→f x y=false:=by
 unfold b4h;rw[f0f (by simp;omega),List.countP_eq_zero];constructor
 ·intro h j x y hx hy;have:(x,y)∈a.zip b:=f3o.2 ⟨j,by rw[List.getElem?_zip_eq_some];exact⟨hx,hy⟩⟩;simpa using h _ this
 ·intro h z hz;obtain⟨j,hj⟩:=f3o.1 hz;obtain⟨x,y⟩:=z;rw[List.getElem?_zip_eq_some]at hj;simpa using h j x y hj.1 hj.2
theorem b2f{p q:Cb}:a8o p q=true↔∀(j x y:Nat),p.all[j]?=some x→q.all[j]?=some y→x+y≠1:=by unfold a8o;rw[decide_eq_true_iff,c15 (c3d p)];simp[d5p]
theorem b8k{p q:Cb}:d5w p q=true↔∀(j x y:Nat),p.all[j]?=some x→q.all[j]?=some y→x=2∨x=y:=by
 unfold d5w;rw[decide_eq_true_iff,c15 (c3d p)];constructor
 ·intro h j x y hx hy;have:=h j x y hx hy;unfold e39 at this;by_cases h1:x=2
  ·exact .inl h1
  ·by_cases h2:x=y
   ·exact .inr h2
   ·simp[h1,h2]at this
 ·intro h j x y hx hy;rcases h j x y hx hy with h1|h1<;>simp[e39,h1]
theorem c2e{n m:Nat}{p q:Cb}(hp:p.sh n m)(hq:q.sh n m):(a7o p q).all=List.zipWith min p.all q.all:=by unfold Cb.all a7o;rw[List.zipWith_append (by rw[hp.ins,hq.ins])]
theorem c7r{a b:List Nat}{j z:Nat}(h:(List.zipWith min a b)[j]?=some z):∃x y,a[j]?=some x∧b[j]?=some y∧z=min x y:=by
 rw[List.getElem?_zipWith]at h;cases ha:a[j]? with
 |none=>rw[ha]at h;simp at h
 |some x=>
  cases hb:b[j]? with
  |none=>rw[ha,hb]at h;simp at h
  |some y=>rw[ha,hb]at h;simp at h;exact⟨x,y,rfl,rfl,h.symm⟩
theorem e3w{n m:Nat}{p q:Cb}(hp:p.sh n m)(hq:q.sh n m){j x:Nat}(h:p.all[j]?=some x):∃y,q.all[j]?=some y:=by have:=(e9k.1 h).1;refine⟨_,z9e (by rw[c3d]at this⊢;unfold Cb.n at this⊢;rw[hp.ins,hp.sts]at this;rw[hq.ins,hq.sts];exact this)⟩
theorem b9l{n m:Nat}{p:Cb}(hp:p.sh n m){j x:Nat}(h:p.all[j]?=some x):x≤2:=hp.ok.2 x (c10 h)
theorem d5u(p:Cb):d5w p (b0m p)=true:=b8k.2 λj x y hx hy=>by rw[show(b0m p).all=p.all from rfl,hx]at hy;injection hy with hy;exact .inr hy
theorem d5v{n m:Nat}{r q p:Cb}(hr:r.sh n m)(hq:q.sh n m)(hp:p.sh n m)(h:d5w r q=true)(hc:a8o p q=true):d5w r (a7o q p)=true:=by rw[b8k]at h⊢;rw[b2f]at hc;intro j x z hx hz;rw[c2e hq hp]at hz;obtain⟨a,b,ha,hb,rfl⟩:=c7r hz;have h1:=h j x a hx ha;have h2:=hc j b a hb ha;have h3:=b9l hr hx;have h4:=b9l hq ha;have h5:=b9l hp hb;omega
theorem d1o{n m:Nat}{q p:Cb}(hq:q.sh n m)(hp:p.sh n m)(hc:a8o p q=true):d5w p (a7o q p)=true:=by
 rw[b8k];rw[b2f]at hc;intro j x z hx hz;rw[c2e hq hp]at hz;obtain⟨a,b,ha,hb,rfl⟩:=c7r hz;rw[hb]at hx;injection hx with hx
 have h2:=hc j b a hb ha;have h4:=b9l hq ha;have h5:=b9l hp hb;omega
theorem b67{n m:Nat}{y q p:Cb}(hy:y.sh n m)(hq:q.sh n m)(hp:p.sh n m)(hc:a8o p q=true)(h:a8o y q=false):a8o y (a7o q p)=false:=by
 cases h1:a8o y (a7o q p)with
 |false=>rfl
 |true=>
  rw[b2f]at h1 hc;have:a8o y q=true:=b2f.2 λj a b ha hb=>by obtain⟨c,qx⟩:=e3w hq hp hb;have h2:=h1 j a (min b c) ha (by rw[c2e hq hp,List.getElem?_zipWith,hb,qx]);have h3:=hc j c b qx hb;have h4:=b9l hq hb;have h5:=b9l hp qx;have h6:=b9l hy ha;omega
  rw[h]at this;cases this
structure PInv(n m:Nat)(ps:List Cb)(i:Nat)(s:List Cb×List (List Nat)):Prop where
 pw:∀(a b:Nat) (x y:Cb),a<b→s.1[a]?=some x→s.1[b]?=some y→a8o y x=false
 cov:∀(k:Nat) (g:List Nat) (o:Cb) (t:Nat),s.2[k]?=some g→s.1[k]?=some o→t∈g→∃p,ps[t]?=some p∧d5w p o=true
theorem b5a{f:Cb→Bool}{l:List Cb}(h:l.findIdx? f=none){a:Nat}{x:Cb}(hx:l[a]?=some x):f x=false:=by rw[List.findIdx?_eq_none_iff]at h;exact h x (c10 hx)
theorem PInv.step{n m i:Nat}{ps:List Cb}{s:List Cb×List (List Nat)}{p:Cb}(fl:∀p∈ps,p.sh n m)(hM:MInv n m i s)(h:PInv n m ps i s)(hp:ps[i]?=some p):PInv n m ps (i+1) (b3b s i p):=by
 have jY:=fl p (c10 hp);unfold b3b;split
 ·rename_i hn;have aW:∀(b:Nat) (y:Cb),(s.1++[b0m p])[b]?=some y→(b=s.1.length∧y=b0m p)∨s.1[b]?=some y:=by
   intro b y hy;by_cases hb:b<s.1.length
   ·rw[f0i hb]at hy;exact .inr hy
   ·have hl:=(e9k.1 hy).1;simp only[f1o,List.length_singleton]at hl;obtain rfl:b=s.1.length:=by omega
    simp at hy;exact .inl ⟨rfl,hy.symm⟩
  refine⟨λa b x y aX hx hy=>?_,λk g o t hg ho ht=>?_⟩
  ·dsimp only at hx hy;rcases aW b y hy with ⟨rfl,rfl⟩|hy
   ·rcases aW a x hx with ⟨rfl,rfl⟩|hx
    ·omega
    ·exact b5a hn hx
   ·rcases aW a x hx with ⟨rfl,rfl⟩|hx
    ·have:=(e9k.1 hy).1;omega
    ·exact h.pw a b x y aX hx hy
  ·dsimp only at hg ho;rcases aW k o ho with ⟨rfl,rfl⟩|ho
   ·rw[hM.len]at hg;simp at hg;subst hg;simp at ht;subst ht;exact⟨p,hp,d5u p⟩
   ·have hk:=(e9k.1 ho).1;rw[hM.len]at hk;rw[f0i hk]at hg;exact h.cov k g o t hg ho ht
 ·rename_i k hk;obtain⟨bw,fP,_⟩:=f3p.1 hk;obtain⟨q,hq⟩:∃q,s.1[k]?=some q:=⟨_,z9e bw⟩
  have pJ:s.1[k]=q:=(e9k.1 hq).2;rw[pJ]at fP;have lY:=hM.sh q (c10 hq);have dB:k<s.2.length:=by rw[←hM.len];exact bw
  obtain⟨g0,oU⟩:∃g,s.2[k]?=some g:=⟨_,z9e dB⟩
  simp only[f6t,hq,oU,f3i];have aW:∀(b:Nat) (y:Cb),(s.1.set k (a7o q p))[b]?=some y→(b=k∧y=a7o q p)∨(b≠k∧s.1[b]?=some y):=by
   intro b y hy;by_cases hb:k=b
   ·subst hb;rw[List.getElem?_set_self bw]at hy;injection hy with hy
    exact .inl ⟨rfl,hy.symm⟩
   ·rw[List.getElem?_set_ne hb]at hy;exact .inr ⟨f4j hb,hy⟩
  refine⟨λa b x y aX hx hy=>?_,λk' g o t hg ho ht=>?_⟩
  ·dsimp only at hx hy;rcases aW b y hy with ⟨rfl,rfl⟩|⟨_,gH⟩
   ·rcases aW a x hx with ⟨rfl,rfl⟩|⟨_,hx⟩
    ·omega
    ·have pk:=hM.sh x (c10 hx);have h1:=h.pw a b x q aX hx hq;have h2:a8o x q=false:=by rw[b4i (pk.two lY)];exact h1
     have h3:=b67 pk lY jY fP h2;rw[b4i ((c9n lY jY).two pk)];exact h3
   ·have sX:=hM.sh y (c10 gH);rcases aW a x hx with ⟨rfl,rfl⟩|⟨_,hx⟩
    ·exact b67 sX lY jY fP (h.pw a b q y aX hq gH)
    ·exact h.pw a b x y aX hx gH
  ·dsimp only at hg ho;rcases aW k' o ho with ⟨rfl,rfl⟩|⟨au,ho⟩
   ·rw[List.getElem?_set_self dB]at hg;injection hg with hg
    subst hg;rcases f2w.1 ht with ht|ht
    ·obtain⟨r,hr,hc⟩:=h.cov _ g0 q t oU hq ht;exact⟨r,hr,d5v (fl r (c10 hr)) lY jY hc fP⟩
    ·simp at ht;subst ht;exact⟨p,hp,d1o lY jY fP⟩
   ·rw[List.getElem?_set_ne (f4j au)]at hg;exact h.cov k' g o t hg ho ht
theorem c05{n m:Nat}{ps:List Cb}(h:∀p∈ps,p.sh n m):∀i,PInv n m ps i (a7p ps i)
 |0=>⟨λa b x y _ hx=>by simp[a7p]at hx,λk g o t hg=>by simp[a7p]at hg⟩
 |i+1=>by
  have ih:=c05 h i;have hM:=a9o h i;cases hp:ps[i]? with
  |none=>
   have e:a7p ps (i+1)=a7p ps i:=by simp only[a7p,hp]
   rw[e];exact⟨ih.pw,ih.cov⟩
  |some p=>rw[c04 hp];exact ih.step h hM hp
def nz(p:Cb):Cb:=⟨none,p.ins,none,p.sts⟩
def cL{α:Type}:List α→Option (Option Nat)|[]=>none|_::r=>some (some (r.length+1))
theorem d9f(ps:List Cb):e47 ps=sl (cL ps) (ps.map Cb.cells):=by cases ps<;>rfl
theorem d9g(gs:List (List Nat)):e48 gs=sl (cL gs) (gs.map λg=>[lsV g]):=by cases gs<;>rfl
theorem c07(g:List Nat):lsV g=sl (cL g) (g.map a0d):=by cases g<;>rfl
theorem d9r(H:a02)(c:Option (Option Nat))(ps:List Cb)(n m:Nat)(h:∀p∈ps,p.sh n m)(hl:ps.length≤100):a09 L.env false (sem L.env Mf) (.func (.func 11) [] []) [sl c (ps.map Cb.cells)] H =
 some (.tuple [sl (cL (a7p ps ps.length).1) ((a7p ps ps.length).1.map Cb.cells),sl (cL (a7p ps ps.length).2) ((a7p ps ps.length).2.map λg=>[lsV g]),.int .i64 0],H,[]):=by
 have:=c27 H c ps n m h hl;rw[d9f,d9g]at this;exact this
end Go.QInst
