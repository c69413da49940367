/- Part of a proof. No condition. -/
import Derived.Test.YtmiegcjnimlbmaaGreatDoorUTb
import Derived.Test.YtmiegcjnimlbmaaGreatDoorUIn
import Derived.Test.YtmiegcjnimlbmaaGreatDoorUNe
import Derived.Test.YtmiegcjnimlbmaaGreatDoorUTc
import Derived.Test.YtmiegcjnimlbmaaGreatDoorUTstTio
import Derived.Test.YtmiegcjnimlbmaaGreatDoorAxD
set_option linter.unusedSimpArgs false
set_option linter.unusedVariables false
namespace Go.UInst
open Go.Proofs Go.Ax Go.Pc
set_option maxRecDepth 100000
theorem c7j(c:Cir)(hc:c.wf)(hO:c.outs≠[])(ord:List Nat)(hord:OrdOf c ord)(p:Pat)(hp:PatOk c.nodes p)(nd:Nat)(pin:Int)(val:Nat)(I S:AV)(hI:refs I=[])(hS:refs S=[]) :
 sem L.env Mf 123 [.agg [sl p.ic (p.ins.map u8R),sl p.sc (p.sts.map u8R)],.ptr 0 0 0,.ptr 1 0 0,.iptr [sl c.nc (c.nodes.map Nd.enc),sl c.mc (c.names.map a1h),.nilslice,sl c.oc (c.outs.map a0h)],.iptr [.islice [[.int .u8 1,.int .i64 nd,.int .i64 pin,.int .u8 val,.int .i64 0]] (some 1)],.ptr 2 0 0] [some (.row 1 [[.bool true]]),some (.row 1 [[fn1 c]]),some (.row 2 [[I,S]])] =
  some (a9r (a14 c.outs (gN c ord p.ins p.sts)) (a1q c.nodes (gN c ord p.ins p.sts)),[some (.row 1 [[.bool false]]),some (.row 1 [[fn1 c]]),some (.row 2 [[sl p.ic (p.ins.map u8R),sl p.sc (p.sts.map u8R)]])]):=by
 have hs:=λ(d:Bool) (H:a02)=>c4t c hc hO ord hord p hp (d:=d) H;simp only[Pat.enc]at hs;unfold a9r at hs⊢;have s1:=a1d (a14 c.outs (gN c ord p.ins p.sts));have s2:=a1d (a1q c.nodes (gN c ord p.ins p.sts));have r1:=a18 (a14 c.outs (gN c ord p.ins p.sts));have r2:=a18 (a1q c.nodes (gN c ord p.ins p.sts));have c1:=b48 (a14 c.outs (gN c ord p.ins p.sts));have c2:=b48 (a1q c.nodes (gN c ord p.ins p.sts));generalize a2p (a14 c.outs (gN c ord p.ins p.sts))=C1 at hs s1 r1 c1⊢;generalize a2p (a1q c.nodes (gN c ord p.ins p.sts))=C2 at hs s2 r2 c2⊢;have f1:=λm t d=>a0j m t d _ r1;have f2:=λm t d=>a0j m t d _ r2;have w0:=λπ=>a0d π _ (b00 c);have w1:=b00 c;have w3:(fn1 c).storable=true:=rfl;have w4:a8a (fn1 c)=some (fn1 c):=rfl;generalize fn1 c=G at hs w0 w1 w3 w4⊢
 (refine sv Tryz.f123 ?_;simp only[Tryz.f123,gS])
 (repeat first|simp only[ww]|(apply xa;simp+decide only[go_sem,hs,s1,s2,c1,c2,w3,w4];rfl;kernel_rfl))
 (apply fqb;simp+decide only[go_sem,f1,f2,w0,w1]<;>rfl)
theorem c7i(c:Cir)(G:AV)(hG:refs G=[])(p q:Pat)(nd:Nat)(pin:Int)(val:Nat)(C1 C2:AV)(s1:AV.storable C1=true)(s2:AV.storable C2=true)(r1:refs C1=[])(r2:refs C2=[])(c1:AV.cells C1=[C1])(c2:AV.cells C2=[C2])
 (hp:∀(d:Bool) (H:a02),a0a L.env d (sem L.env Mf) (.func (.func 24) [] []) [.agg [sl c.nc (c.nodes.map Nd.enc),sl c.mc (c.names.map a1h),.nilslice,sl c.oc (c.outs.map a0h)],.agg [.int .u8 1,.int .i64 nd,.int .i64 pin,.int .u8 val,.int .i64 0],.agg [sl q.ic (q.ins.map u8R),sl q.sc (q.sts.map u8R)],.agg [sl p.ic (p.ins.map u8R),sl p.sc (p.sts.map u8R)]] H=some (.tuple [.agg [C1,C2],.junk,.int .i64 0],H,[])) :
 sem L.env Mf 123 [.agg [sl p.ic (p.ins.map u8R),sl p.sc (p.sts.map u8R)],.ptr 0 0 0,.ptr 1 0 0,.iptr [sl c.nc (c.nodes.map Nd.enc),sl c.mc (c.names.map a1h),.nilslice,sl c.oc (c.outs.map a0h)],.iptr [.islice [[.int .u8 1,.int .i64 nd,.int .i64 pin,.int .u8 val,.int .i64 0]] (some 1)],.ptr 2 0 0] [some (.row 1 [[.bool false]]),some (.row 1 [[G]]),some (.row 2 [[sl q.ic (q.ins.map u8R),sl q.sc (q.sts.map u8R)]])] =
  some (.agg [C1,C2],[some (.row 1 [[.bool false]]),some (.row 1 [[G]]),some (.row 2 [[sl p.ic (p.ins.map u8R),sl p.sc (p.sts.map u8R)]])]):=by
 have f1:=λm t d=>a0j m t d _ r1;have f2:=λm t d=>a0j m t d _ r2;have w0:=λπ=>a0d π _ hG;have hra:∀(r:List AV) (rs:List (List AV)),Ax.rowAt (r::rs) 0=some r:=λ_ _=>rfl
 (refine sv Tryz.f123 ?_;simp only[Tryz.f123,gS])
 (repeat first|simp only[ww]|(apply xa;simp+decide only[go_sem,hp,s1,s2,c1,c2,hra];rfl;kernel_rfl))
 (apply fqb;simp+decide only[go_sem,f1,f2,w0,hG]<;>rfl)
theorem c7l(c:Cir)(hc:c.wf)(nd:Nat)(pin:Int)(val:Nat):sem L.env Mf 68 [.agg [sl c.nc (c.nodes.map Nd.enc),sl c.mc (c.names.map a1h),.nilslice,sl c.oc (c.outs.map a0h)],.islice [[.int .u8 1,.int .i64 nd,.int .i64 pin,.int .u8 val,.int .i64 0]] (some 1)] [] =
 some (.ptr 0 0 0,[some (.row 3 [[.func (.func 123) [] [.ptr 2 0 0,.ptr 1 0 0,.iptr [sl c.nc (c.nodes.map Nd.enc),sl c.mc (c.names.map a1h),.nilslice,sl c.oc (c.outs.map a0h)],.iptr [.islice [[.int .u8 1,.int .i64 nd,.int .i64 pin,.int .u8 val,.int .i64 0]] (some 1)],.ptr 3 0 0],.islice ((List.replicate (kinds c.nodes 0).length 2).map u8R) (some (kinds c.nodes 0).length),.islice ((List.replicate (kinds c.nodes 14).length 2).map u8R) (some (kinds c.nodes 14).length)]]),some (.row 1 [[fn1 c]]),some (.row 1 [[.bool true]]),some (.row 2 [[.nilslice,.nilslice]])]):=by
 have hb:∀(d:Bool) (H:a02),a0a L.env d (sem L.env Mf) (.func (.func 22) [] []) [.agg [sl c.nc (c.nodes.map Nd.enc),sl c.mc (c.names.map a1h),.nilslice,sl c.oc (c.outs.map a0h)]] H=some (.agg [.islice ((List.replicate (kinds c.nodes 0).length 2).map u8R) (some (kinds c.nodes 0).length),.islice ((List.replicate (kinds c.nodes 14).length 2).map u8R) (some (kinds c.nodes 14).length)],H,[]):=λd H=>a91 H c hc;have hra:∀(r:List AV) (rs:List (List AV)),Ax.rowAt (r::rs) 0=some r:=λ_ _=>rfl;simp only[fn1,Cir.enc];refine f3p Tryz.f68 0 1 ?_;simp only[Tryz.f68,gS];refine a6x ?_
 (repeat first|simp only[ww]|(apply xa;simp+decide only[go_sem];rfl;kernel_rfl))
 try rw[a7m]
 try simp only[b8x,List.length_nil,Nat.zero_add]
 repeat rw[a1o (by simp+decide only[go_sem,a65,a1f,and_true,true_and])]
 simp+decide only[go_sem,List.take_succ_cons,List.take_zero,List.take_nil];refine d1x ?_
 (repeat first|simp only[ww]|(apply xa;simp+decide only[go_sem,hb,hra];rfl;kernel_rfl))
 refine e8m (vs:=[.ptr 0 0 0]) (by simp+decide only[go_sem]) (by rfl)
theorem c4s{d:Bool}{c:Cir}{nd:Nat}{pin:Int}{val:Nat}{P V:AV}{b b':Bool}{G I S I' S':AV}(hP:refs P=[])(hG:refs G=[])(hI:refs I=[])(hS:refs S=[])(hI':refs I'=[])(hS':refs S'=[])(hV:refs V=[])(X:Option AObj)
 (h:sem L.env Mf 123 [P,.ptr 0 0 0,.ptr 1 0 0,.iptr [sl c.nc (c.nodes.map Nd.enc),sl c.mc (c.names.map a1h),.nilslice,sl c.oc (c.outs.map a0h)],.iptr [.islice [[.int .u8 1,.int .i64 nd,.int .i64 pin,.int .u8 val,.int .i64 0]] (some 1)],.ptr 2 0 0] [some (.row 1 [[.bool b]]),some (.row 1 [[G]]),some (.row 2 [[I,S]])]=some (V,[some (.row 1 [[.bool b']]),some (.row 1 [[G]]),some (.row 2 [[I',S']])])) :
 a0a L.env d (sem L.env Mf) (.func (.func 123) [] [.ptr 1 0 0,.ptr 2 0 0,.iptr [sl c.nc (c.nodes.map Nd.enc),sl c.mc (c.names.map a1h),.nilslice,sl c.oc (c.outs.map a0h)],.iptr [.islice [[.int .u8 1,.int .i64 nd,.int .i64 pin,.int .u8 val,.int .i64 0]] (some 1)],.ptr 3 0 0]) [P] [X,some (.row 1 [[.bool b]]),some (.row 1 [[G]]),some (.row 2 [[I,S]])]=some (V,[X,some (.row 1 [[.bool b']]),some (.row 1 [[G]]),some (.row 2 [[I',S']])],[1,2,3]):=by
 have p2:=λπ=>a0d π _ hP;have g2:=λπ=>a0d π _ hG;have i2:=λπ=>a0d π _ hI;have s2:=λπ=>a0d π _ hS;have i3:=λπ=>a0d π _ hI';have s3:=λπ=>a0d π _ hS';have v3:=λπ=>a0d π _ hV;refine a5e (by kernel_rfl) (by kernel_rfl) rfl ((a1z (sem L.env Mf 123) _ [X,some (.row 1 [[.bool b]]),some (.row 1 [[G]]),some (.row 2 [[I,S]])] (σ:=[1,2,3]) (by simp+decide only[go_sem,hP,hG,hI,hS]) rfl rfl (by simp+decide only[go_sem,p2]<;>rfl) (by simp+decide only[go_sem,g2,i2,s2]<;>rfl) h).trans ?_) rfl;simp+decide only[go_sem,g2,i3,s3,v3]<;>rfl
theorem d0p(c:Cir)(nd:Nat)(pin:Int)(val:Nat)(I0 W C1 C2 Lx Ly:AV)(b b':Bool)(G:AV)(i:List Nat)(ci:Option Nat)(hG:refs G=[])(hI0:refs I0=[])(hW:refs W=[])(hx:refs Lx=[])(hy:refs Ly=[])(hWs:AV.storable W=true)(hWc:AV.cells W=[W])(hWj:AV.isJunk W=false)(s1:AV.storable C1=true)(s2:AV.storable C2=true)(r1:refs C1=[])(r2:refs C2=[])(c1:AV.cells C1=[C1])(c2:AV.cells C2=[C2])(j1:AV.isJunk C1=false)(j2:AV.isJunk C2=false)
 (h:sem L.env Mf 123 [.agg [.islice (i.map u8R) ci,W],.ptr 0 0 0,.ptr 1 0 0,.iptr [sl c.nc (c.nodes.map Nd.enc),sl c.mc (c.names.map a1h),.nilslice,sl c.oc (c.outs.map a0h)],.iptr [.islice [[.int .u8 1,.int .i64 nd,.int .i64 pin,.int .u8 val,.int .i64 0]] (some 1)],.ptr 2 0 0] [some (.row 1 [[.bool b]]),some (.row 1 [[G]]),some (.row 2 [[Lx,Ly]])]=some (.agg [C1,C2],[some (.row 1 [[.bool b']]),some (.row 1 [[G]]),some (.row 2 [[.islice (i.map u8R) ci,W]])])) :
 sem L.env Mf 70 [.ptr 0 0 0,.islice (i.map u8R) ci] [some (.row 3 [[.func (.func 123) [] [.ptr 1 0 0,.ptr 2 0 0,.iptr [sl c.nc (c.nodes.map Nd.enc),sl c.mc (c.names.map a1h),.nilslice,sl c.oc (c.outs.map a0h)],.iptr [.islice [[.int .u8 1,.int .i64 nd,.int .i64 pin,.int .u8 val,.int .i64 0]] (some 1)],.ptr 3 0 0],I0,W]]),some (.row 1 [[.bool b]]),some (.row 1 [[G]]),some (.row 2 [[Lx,Ly]])] =
  some (C1,[some (.row 3 [[.func (.func 123) [] [.ptr 1 0 0,.ptr 2 0 0,.iptr [sl c.nc (c.nodes.map Nd.enc),sl c.mc (c.names.map a1h),.nilslice,sl c.oc (c.outs.map a0h)],.iptr [.islice [[.int .u8 1,.int .i64 nd,.int .i64 pin,.int .u8 val,.int .i64 0]] (some 1)],.ptr 3 0 0],.islice (i.map u8R) ci,C2]]),some (.row 1 [[.bool b']]),some (.row 1 [[G]]),some (.row 2 [[.islice (i.map u8R) ci,W]])]):=by
 have hi:refs (.islice (i.map u8R) ci)=[]:=rfl;have hc:=λ(d:Bool) (X:Option AObj)=>c4s (d:=d) (c:=c) (nd:=nd) (pin:=pin) (val:=val) (P:=.agg [.islice (i.map u8R) ci,W]) (V:=.agg [C1,C2]) (by simp only[a0s,a07,hi,hW,a12,List.append_nil]) hG hx hy hi hW (by simp only[a0s,a07,r1,r2,a12,List.append_nil]) X h;have f1:=λm t d=>a0j m t d _ r1;have f2:=λm t d=>a0j m t d _ r2;have w2:=λπ=>a0d π _ r2;have w3:=λπ=>a0d π _ hW;have w0:=λπ=>a0d π _ hG
 (refine sv Tryz.f70 ?_;simp only[Tryz.f70,gS])
 (repeat first|simp only[ww]|(apply xa;simp+decide only[go_sem,hc,hWs,hWc,hWj,s1,s2,c1,c2,j1,j2];rfl;kernel_rfl))
 (apply fqb;simp+decide only[go_sem,f1,f2,w0,w2,w3]<;>rfl)
theorem c1a{d:Bool}(A B:Option AObj)(c:Cir)(hc:c.wf)(nd:Nat)(pin:Int)(val:Nat):a0a L.env d (sem L.env Mf) (.func (.func 68) [] []) [.agg [sl c.nc (c.nodes.map Nd.enc),sl c.mc (c.names.map a1h),.nilslice,sl c.oc (c.outs.map a0h)],.islice [[.int .u8 1,.int .i64 nd,.int .i64 pin,.int .u8 val,.int .i64 0]] (some 1)] [A,B] =
 some (.ptr 2 0 0,[A,B,some (.row 3 [[.func (.func 123) [] [.ptr 4 0 0,.ptr 3 0 0,.iptr [sl c.nc (c.nodes.map Nd.enc),sl c.mc (c.names.map a1h),.nilslice,sl c.oc (c.outs.map a0h)],.iptr [.islice [[.int .u8 1,.int .i64 nd,.int .i64 pin,.int .u8 val,.int .i64 0]] (some 1)],.ptr 5 0 0],.islice ((List.replicate (kinds c.nodes 0).length 2).map u8R) (some (kinds c.nodes 0).length),.islice ((List.replicate (kinds c.nodes 14).length 2).map u8R) (some (kinds c.nodes 14).length)]]),some (.row 1 [[fn1 c]]),some (.row 1 [[.bool true]]),some (.row 2 [[.nilslice,.nilslice]])],[]):=by
 have h:=c7l c hc nd pin val;have g2:=λπ=>a0d π _ (b00 c);refine d54 (by kernel_rfl) (by kernel_rfl) rfl ((a1z (sem L.env Mf 68) _ [A,B] (σ:=[]) (by simp+decide only[go_sem]) rfl rfl (by simp+decide only[go_sem]<;>rfl) (by rfl) h).trans ?_) (by simp);simp+decide only[go_sem,g2]<;>rfl
theorem c2g{d:Bool}(K:a02)(c:Cir)(nd:Nat)(pin:Int)(val:Nat)(I0 W C1 C2 Lx Ly:AV)(b b':Bool)(G:AV)(i:List Nat)(ci:Option Nat)(hG:refs G=[])(hI0:refs I0=[])(hW:refs W=[])(hx:refs Lx=[])(hy:refs Ly=[])(hWs:AV.storable W=true)(hWc:AV.cells W=[W])(hWj:AV.isJunk W=false)(s1:AV.storable C1=true)(s2:AV.storable C2=true)(r1:refs C1=[])(r2:refs C2=[])(c1:AV.cells C1=[C1])(c2:AV.cells C2=[C2])(j1:AV.isJunk C1=false)(j2:AV.isJunk C2=false)
 (h:sem L.env Mf 123 [.agg [.islice (i.map u8R) ci,W],.ptr 0 0 0,.ptr 1 0 0,.iptr [sl c.nc (c.nodes.map Nd.enc),sl c.mc (c.names.map a1h),.nilslice,sl c.oc (c.outs.map a0h)],.iptr [.islice [[.int .u8 1,.int .i64 nd,.int .i64 pin,.int .u8 val,.int .i64 0]] (some 1)],.ptr 2 0 0] [some (.row 1 [[.bool b]]),some (.row 1 [[G]]),some (.row 2 [[Lx,Ly]])]=some (.agg [C1,C2],[some (.row 1 [[.bool b']]),some (.row 1 [[G]]),some (.row 2 [[.islice (i.map u8R) ci,W]])])) :
 a0a L.env d (sem L.env Mf) (.func (.func 70) [] []) [.ptr 0 0 0,.islice (i.map u8R) ci] (some (.row 3 [[.func (.func 123) [] [.ptr 1 0 0,.ptr 2 0 0,.iptr [sl c.nc (c.nodes.map Nd.enc),sl c.mc (c.names.map a1h),.nilslice,sl c.oc (c.outs.map a0h)],.iptr [.islice [[.int .u8 1,.int .i64 nd,.int .i64 pin,.int .u8 val,.int .i64 0]] (some 1)],.ptr 3 0 0],I0,W]])::some (.row 1 [[.bool b]])::some (.row 1 [[G]])::some (.row 2 [[Lx,Ly]])::K) =
  some (C1,some (.row 3 [[.func (.func 123) [] [.ptr 1 0 0,.ptr 2 0 0,.iptr [sl c.nc (c.nodes.map Nd.enc),sl c.mc (c.names.map a1h),.nilslice,sl c.oc (c.outs.map a0h)],.iptr [.islice [[.int .u8 1,.int .i64 nd,.int .i64 pin,.int .u8 val,.int .i64 0]] (some 1)],.ptr 3 0 0],.islice (i.map u8R) ci,C2]])::some (.row 1 [[.bool b']])::some (.row 1 [[G]])::some (.row 2 [[.islice (i.map u8R) ci,W]])::K,[0,1,2,3]):=by
 have hc:=d0p c nd pin val I0 W C1 C2 Lx Ly b b' G i ci hG hI0 hW hx hy hWs hWc hWj s1 s2 r1 r2 c1 c2 j1 j2 h;have e4:List.range 4=[0,1,2,3]:=rfl;have g2:=λπ=>a0d π _ hG;have i2:=λπ=>a0d π _ hI0;have w2:=λπ=>a0d π _ hW;have x2:=λπ=>a0d π _ hx;have y2:=λπ=>a0d π _ hy;have c3:=λπ=>a0d π _ r2;have hp:=d10 (E:=L.env) (draw:=d) (call:=sem L.env Mf) (g:=70) (fs:=[]) (cs:=[]) (ar:=[.ptr 0 0 0,.islice (i.map u8R) ci]) (args:=[.ptr 0 0 0,.islice (i.map u8R) ci]) (P:=[some (.row 3 [[.func (.func 123) [] [.ptr 1 0 0,.ptr 2 0 0,.iptr [sl c.nc (c.nodes.map Nd.enc),sl c.mc (c.names.map a1h),.nilslice,sl c.oc (c.outs.map a0h)],.iptr [.islice [[.int .u8 1,.int .i64 nd,.int .i64 pin,.int .u8 val,.int .i64 0]] (some 1)],.ptr 3 0 0],I0,W]]),some (.row 1 [[.bool b]]),some (.row 1 [[G]]),some (.row 2 [[Lx,Ly]])]) (K:=K) (n:=4) (by kernel_rfl) (by kernel_rfl) rfl rfl
  (by rw[e4];simp+decide only[go_sem,hG,hI0,hW,hx,hy,List.cons_append,List.nil_append]<;>rfl) (by rw[e4];simp+decide only[go_sem]<;>rfl) (by rw[e4];simp+decide only[go_sem,g2,i2,w2,x2,y2]<;>rfl) hc rfl (by rw[e4];simp+decide only[go_sem,g2,w2,c3]<;>rfl) r1
 exact hp
theorem c8s:sem L.env Mf 71 [.nilslice] []=some (.nilslice,[]):=by
 (refine sv Tryz.f71 ?_;simp only[Tryz.f71,gS])
 (repeat first|simp only[ww]|(apply xa;simp+decide only[go_sem];rfl;kernel_rfl))
 (apply fqb;simp+decide only[go_sem]<;>rfl)
theorem c1y{d:Bool}(H:a02):a0a L.env d (sem L.env Mf) (.func (.func 71) [] []) [.nilslice] H=some (.nilslice,H,[]):=a04 (by kernel_rfl) (by kernel_rfl) rfl rfl c8s rfl
theorem b8d{l:List Nat}{n:Nat}(h:l.length=n)(hn:1≤n):a2p l = .islice (l.map u8R) (some n):=by
 cases l with
 |nil=>simp at h;omega
 |cons x r=>subst h;rfl
def c0u(w g:Nat):Bool:=(decide (w=0)&&decide (g=1))||(decide (w=1)&&decide (g=0))
def b0q(i q g:Nat):List AV:=[.int .i64 i,.int .i64 q,.int .u8 g]
def msQ(i:Nat)(W O:List Nat)(n:Nat):List (List AV):=(List.range n).flatMap λq=>if c0u (W.getD q 0) (O.getD q 0)then[b0q i q (O.getD q 0)]else[]
theorem d35(i:Nat)(W O:List Nat):msQ i W O 0=[]:=rfl
theorem c1x(i:Nat)(W O:List Nat)(q:Nat):msQ i W O (q+1)=msQ i W O q++if c0u (W.getD q 0) (O.getD q 0)then[b0q i q (O.getD q 0)]else[]:=by simp[msQ,List.range_succ]
def msI(W O:Nat→List Nat)(m n:Nat):List (List AV):=(List.range n).flatMap λi=>msQ i (W i) (O i) m
theorem d36(W O:Nat→List Nat)(m n:Nat):msI W O m (n+1)=msI W O m n++msQ n (W n) (O n) m:=by simp[msI,List.range_succ]
theorem b2a(i:Nat)(W O:List Nat)(n:Nat):FlatR (msQ i W O n):=by
 intro r hr;simp only[msQ,List.mem_flatMap]at hr;obtain⟨q,_,hr⟩:=hr;split at hr
 ·rw[List.mem_singleton]at hr;subst hr;rfl
 ·cases hr
theorem d4b(W O:Nat→List Nat)(m n:Nat):FlatR (msI W O m n):=by intro r hr;simp only[msI,List.mem_flatMap]at hr;obtain⟨i,_,hr⟩:=hr;exact b2a _ _ _ _ r hr
theorem b38(i:Nat)(W O:List Nat)(n:Nat):(msQ i W O n).length≤n:=by
 induction n with
 |zero=>simp[d35]
 |succ n ih=>rw[c1x,List.length_append];split<;>simp<;>omega
theorem c8q(W O:Nat→List Nat)(m n:Nat):(msI W O m n).length≤n*m:=by
 induction n with
 |zero=>simp[msI]
 |succ n ih=>rw[d36,List.length_append,Nat.succ_mul];have:=b38 n (W n) (O n) m;omega
theorem d38(n:Nat)(rows:List (List AV))(hf:FlatR rows):sem L.env Mf 71 [.slice 0 0 n none] [some (.row 3 rows)]=some (.slice 0 0 n (some n),[some (.row 3 rows)]):=by
 have h1:=λπ=>a06 π hf
 (refine sv Tryz.f71 ?_;simp only[Tryz.f71,gS])
 (repeat first|simp only[ww]|(apply xa;simp+decide only[go_sem];rfl;kernel_rfl))
 (apply fqb;simp+decide only[go_sem,h1]<;>rfl)
theorem c5g{d:Bool}{H:a02}{b n:Nat}{rows:List (List AV)}(hf:FlatR rows)(hb:a01 H b=some (.row 3 rows)):a0a L.env d (sem L.env Mf) (.func (.func 71) [] []) [.slice b 0 n none] H=some (.slice b 0 n (some n),H,[b]):=by have h:=a40 (E:=L.env) (draw:=d) (call:=sem L.env Mf) (g:=71) (fs:=[]) (cs:=[]) (ar:=[.slice b 0 n none]) (H:=H) (b:=b) (by kernel_rfl) (by kernel_rfl) rfl hb (a0m hf) (FlatO.row hf) rfl (args':=[AV.slice 0 0 n none]) (by simp only[List.nil_append,List.append_nil,List.map_cons,List.map_nil,a1y]) (d38 n rows hf) (FlatO.row hf) (a4t b 0 _ n _);rw[a8g hb]at h;exact h
def gI(c:Cir)(A:List (Rep×List Nat))(k:Nat):Nat→AV
 |0=>.islice ((List.replicate (kinds c.nodes 0).length 2).map u8R) (some (kinds c.nodes 0).length)
 |i+1=>.islice ((inA (xA A) i).map u8R) (some k)
theorem b3t(c:Cir)(A:List (Rep×List Nat))(k i:Nat):refs (gI c A k i)=[]:=by cases i<;>rfl
def lI(c:Cir)(A:List (Rep×List Nat))(k:Nat):Nat→AV
 |0=>.nilslice
 |i+1=>gI c A k (i+1)
def lS(S:Nat→List Nat)(R:Nat→Rep):Nat→AV
 |0=>.nilslice
 |i+1=>sl (R i) ((S i).map u8R)
theorem b7s(c:Cir)(A:List (Rep×List Nat))(k i:Nat):refs (lI c A k i)=[]:=by cases i<;>rfl
theorem b7r(S:Nat→List Nat)(R:Nat→Rep)(i:Nat):refs (lS S R i)=[]:=by
 cases i with
 |zero=>rfl
 |succ i=>exact a1b _ _
structure StpS(c:Cir)(A:List (Rep×List Nat))(k m:Nat)(nd:Nat)(pin:Int)(val:Nat)(O S:Nat→List Nat)(R:Nat→Rep):Prop where
 st:∀i,i<A.length→sem L.env Mf 123 [.agg [.islice ((inA (xA A) i).map u8R) (some k),sl (R i) ((S i).map u8R)],.ptr 0 0 0,.ptr 1 0 0,.iptr [sl c.nc (c.nodes.map Nd.enc),sl c.mc (c.names.map a1h),.nilslice,sl c.oc (c.outs.map a0h)],.iptr [.islice [[.int .u8 1,.int .i64 nd,.int .i64 pin,.int .u8 val,.int .i64 0]] (some 1)],.ptr 2 0 0] [some (.row 1 [[.bool (decide (i=0))]]),some (.row 1 [[fn1 c]]),some (.row 2 [[lI c A k i,lS S R i]])] =
  some (.agg [a2p (O i),sl (R (i+1)) ((S (i+1)).map u8R)],[some (.row 1 [[.bool false]]),some (.row 1 [[fn1 c]]),some (.row 2 [[.islice ((inA (xA A) i).map u8R) (some k),sl (R i) ((S i).map u8R)]])])
 ol:∀i,(O i).length=m
inductive Shp8(v:List AV)(M:a02)(rows:List (List AV))(TV OV:AV)(H:a02):Prop
 |a:rows=[]→OV = .nilslice→TV = .ptr 4 0 0→H=M++[some (.row 3 [v])]→Shp8 v M rows TV OV H
 |b:rows≠[]→OV = .slice 4 0 rows.length none→TV = .ptr 5 0 0→H=M++[some (.row 3 rows),some (.row 3 [v])]→Shp8 v M rows TV OV H
 |c:rows≠[]→OV = .slice 4 0 rows.length none→TV = .iptr v→H=M++[some (.row 3 rows)]→Shp8 v M rows TV OV H
theorem c3j{w g:Nat}(hw:w≤3):(c0u w g=true∧(((a5d 76 72 w).toNat=76∧g=1)∨((a5d 76 72 w).toNat=72∧g=0)))∨(c0u w g=false∧(((a5d 76 72 w).toNat=76∧¬((g:Int)=1))∨((a5d 76 72 w).toNat=72∧¬((g:Int)=0))∨(¬(((a5d 76 72 w).toNat:Int)=76)∧¬(((a5d 76 72 w).toNat:Int)=72)))):=by
 have h4:w=0∨w=1∨w=2∨w=3:=by omega
 rcases h4 with rfl|rfl|rfl|rfl
 ·by_cases hg:g=1
  ·subst hg;exact .inl ⟨rfl,.inl ⟨by decide,rfl⟩⟩
  ·exact .inr ⟨by simp[c0u,hg],.inl ⟨by decide,by omega⟩⟩
 ·by_cases hg:g=0
  ·subst hg;exact .inl ⟨rfl,.inr ⟨by decide,rfl⟩⟩
  ·exact .inr ⟨by simp[c0u,hg],.inr (.inl ⟨by decide,by omega⟩)⟩
 ·exact .inr ⟨by simp[c0u],.inr (.inr ⟨by decide,by decide⟩)⟩
 ·exact .inr ⟨by simp[c0u],.inr (.inr ⟨by decide,by decide⟩)⟩
theorem e0h(c:Cir)(hc:c.wf)(hO:c.outs≠[])(p:Pat)(hp:PatOk c.nodes p)(q:Pat)(hq:PatOk c.nodes q)(nd:Nat)(pin:Int)(val:Nat)(hf:FltOk c.nodes ⟨0,nd,pin,val,0⟩)(ord:List Nat)(hord:OrdOf c ord) :
 sem L.env Mf 24 [.agg [sl c.nc (c.nodes.map Nd.enc),sl c.mc (c.names.map a1h),.nilslice,sl c.oc (c.outs.map a0h)],.agg [.int .u8 1,.int .i64 nd,.int .i64 pin,.int .u8 val,.int .i64 0],.agg [sl p.ic (p.ins.map u8R),sl p.sc (p.sts.map u8R)],.agg [sl q.ic (q.ins.map u8R),sl q.sc (q.sts.map u8R)]] []=some (.tuple [a9r (pdO c ord nd pin val p q) (pdN c ord nd pin val p q),.junk,.int .i64 0],[]):=by
 have hb:=λ(d:Bool) (H:a02)=>a04 (E:=L.env) (draw:=d) (call:=sem L.env Mf) (H:=H) (g:=64) (fs:=[]) (cs:=[]) (ar:=[.agg [sl c.nc (c.nodes.map Nd.enc),sl c.mc (c.names.map a1h),.nilslice,sl c.oc (c.outs.map a0h)],.agg [.int .u8 1,.int .i64 nd,.int .i64 pin,.int .u8 val,.int .i64 0],.agg [sl p.ic (p.ins.map u8R),sl p.sc (p.sts.map u8R)],.agg [sl q.ic (q.ins.map u8R),sl q.sc (q.sts.map u8R)]]) (by kernel_rfl) (by kernel_rfl) rfl (by simp only[List.nil_append,List.append_nil,go_sem]) (d84 c hc hO p hp q hq nd pin val hf ord hord) (by simp only[a5h,a07,a5q,a12,List.append_nil];rfl);unfold a9r at hb⊢;have s1:=a1d (a14 c.outs (a52 c ord q));have s2:=a1d (a1q c.nodes (a52 c ord q));have s3:=a1d (pdO c ord nd pin val p q);have s4:=a1d (pdN c ord nd pin val p q);have q3:=a18 (pdO c ord nd pin val p q);have q4:=a18 (pdN c ord nd pin val p q);generalize a2p (a14 c.outs (a52 c ord q))=A1 at hb s1;generalize a2p (a1q c.nodes (a52 c ord q))=A2 at hb s2;generalize a2p (pdO c ord nd pin val p q)=B1 at hb s3 q3⊢;generalize a2p (pdN c ord nd pin val p q)=B2 at hb s4 q4⊢
 (refine sv Tryz.f24 ?_;simp only[Tryz.f24,gS])
 (repeat first|simp only[ww]|(apply xa;simp+decide only[go_sem,hb,s1,s2,s3,s4];rfl;kernel_rfl))
 refine a7k (vs:=[.agg [B1,B2],.junk,.int .i64 0]) (by simp+decide only[go_sem]<;>rfl) (a7a (by simp only[a62,go_sem,q3,q4,List.append_nil]))
theorem c0s{d:Bool}(H:a02)(c:Cir)(hc:c.wf)(hO:c.outs≠[])(p:Pat)(hp:PatOk c.nodes p)(q:Pat)(hq:PatOk c.nodes q)(nd:Nat)(pin:Int)(val:Nat)(hf:FltOk c.nodes ⟨0,nd,pin,val,0⟩)(ord:List Nat)(hord:OrdOf c ord) :
 a0a L.env d (sem L.env Mf) (.func (.func 24) [] []) [.agg [sl c.nc (c.nodes.map Nd.enc),sl c.mc (c.names.map a1h),.nilslice,sl c.oc (c.outs.map a0h)],.agg [.int .u8 1,.int .i64 nd,.int .i64 pin,.int .u8 val,.int .i64 0],.agg [sl p.ic (p.ins.map u8R),sl p.sc (p.sts.map u8R)],.agg [sl q.ic (q.ins.map u8R),sl q.sc (q.sts.map u8R)]] H=some (.tuple [a9r (pdO c ord nd pin val p q) (pdN c ord nd pin val p q),.junk,.int .i64 0],H,[]):=
 a04 (by kernel_rfl) (by kernel_rfl) rfl (by simp only[List.nil_append,List.append_nil,go_sem]) (e0h c hc hO p hp q hq nd pin val hf ord hord) (by simp only[a5h,a07,a12,a5q,List.append_nil];rfl)
section
variable (c:Cir)(ord:List Nat)(A:List (Rep×List Nat))(nd:Nat)(pin:Int)(val:Nat)
def swP:Nat→List Nat×List Nat
 |0=>(List.replicate (kinds c.nodes 14).length 2,a1q c.nodes (gN c ord (inA (xA A) 0) (List.replicate (kinds c.nodes 14).length 2)))
 |i+1=>((swP i).2,pdN c ord nd pin val ⟨none,inA (xA A) i,none,(swP i).1⟩ ⟨none,inA (xA A) (i+1),none,(swP i).2⟩)
def swS(i:Nat):List Nat:=(swP c ord A nd pin val i).1
def swO:Nat→List Nat
 |0=>a14 c.outs (gN c ord (inA (xA A) 0) (swS c ord A nd pin val 0))
 |i+1=>pdO c ord nd pin val ⟨none,inA (xA A) i,none,swS c ord A nd pin val i⟩ ⟨none,inA (xA A) (i+1),none,swS c ord A nd pin val (i+1)⟩
def swR:Nat→Rep
 |0=>some (some (kinds c.nodes 14).length)
 |i+1=>clR (swS c ord A nd pin val (i+1))
end
theorem e2y(c:Cir)(ord:List Nat)(nd:Nat)(pin:Int)(val:Nat)(p q:Pat)(hp:PatOk c.nodes p)(hq:PatOk c.nodes q):∀v∈pdN c ord nd pin val p q,v≤3:=by
 have hk:=c7o c ord nd pin val p hp;have hN:∀v∈c6g c ord (d62 c ord nd pin val p) q,v≤3:=b7i hk _ _ _ _ _ hq.inv hq.stv;unfold pdN b0p;intro v hv;obtain⟨n,_,rfl⟩:=List.mem_map.1 hv;split
 ·omega
 ·rw[List.getD_eq_getElem?_getD];cases h:(a1k nAlg c.nodes (d62 c ord nd pin val p) (c6g c ord (d62 c ord nd pin val p) q) n)[0]? with
  |none=>simp
  |some x=>exact c89 hk hN n _ _ x (List.mem_of_getElem? h)
theorem e29(c:Cir)(ord:List Nat)(A:List (Rep×List Nat))(nd:Nat)(pin:Int)(val:Nat)(i:Nat):swS c ord A nd pin val (i+2)=pdN c ord nd pin val ⟨none,inA (xA A) i,none,swS c ord A nd pin val i⟩ ⟨none,inA (xA A) (i+1),none,swS c ord A nd pin val (i+1)⟩:=rfl
theorem d7a(c:Cir)(ord:List Nat)(A:List (Rep×List Nat))(nd:Nat)(pin:Int)(val:Nat):∀i,(swS c ord A nd pin val i).length=(kinds c.nodes 14).length
 |0=>by simp[swS,swP]
 |1=>by simp[swS,swP,a1q]
 |i+2=>by rw[e29];simp[pdN,b0p]
theorem e28{c:Cir}{k:Nat}(ord:List Nat)(A:List (Rep×List Nat))(nd:Nat)(pin:Int)(val:Nat)(hkl:(kinds c.nodes 0).length=k)(hA:∀a∈A,a.2.length=k)(r1 r2:Nat→Rep):∀i,i≤A.length→(∀v∈swS c ord A nd pin val i,v≤3)∧(i<A.length→PatOk c.nodes ⟨r1 i,inA (xA A) i,r2 i,swS c ord A nd pin val i⟩):=by
 have hin:∀i,i<A.length→(inA (xA A) i).length=k:=λi hi=>c01 (by rw[a76 (z9e hi)];exact hA _ (List.getElem_mem hi));have pat:∀i,i<A.length→(∀v∈swS c ord A nd pin val i,v≤3)→∀a b,PatOk c.nodes ⟨a,inA (xA A) i,b,swS c ord A nd pin val i⟩:=λi hi hv a b=>⟨by rw[hkl];exact hin i hi,d7a c ord A nd pin val i,λv hv=>by have:=d40 A i v hv;omega,hv⟩
 have key:∀i,i≤A.length→(∀v∈swS c ord A nd pin val i,v≤3)∧(i+1≤A.length→∀v∈swS c ord A nd pin val (i+1),v≤3):=by
  intro i
  induction i with
  |zero=>
   intro _;refine⟨λv hv=>?_,λ_ v hv=>?_⟩
   ·have hv:v∈List.replicate (kinds c.nodes 14).length 2:=hv;rw[List.eq_of_mem_replicate hv];omega
   ·have hv:v∈a1q c.nodes (gN c ord (inA (xA A) 0) (List.replicate (kinds c.nodes 14).length 2)):=hv;have:=c3i _ _ v hv;omega
  |succ i ih=>intro hi;have ih:=ih (by omega);refine⟨ih.2 hi,λh2=>?_⟩;rw[e29];exact e2y c ord nd pin val _ _ (pat i (by omega) ih.1 _ _) (pat (i+1) (by omega) (ih.2 hi) _ _)
 exact λi hi=>⟨(key i hi).1,λhlt=>pat i hlt (key i hi).1 _ _⟩
theorem f3q(c:Cir)(hc:c.wf){k m:Nat}(ht:Tio c k m)(ord:List Nat)(hord:OrdOf c ord)(A:List (Rep×List Nat))(hA:∀a∈A,a.2.length=k)(nd:Nat)(pin:Int)(val:Nat)(hf:FltOk c.nodes ⟨0,nd,pin,val,0⟩) :
 StpS c A k m nd pin val (swO c ord A nd pin val) (swS c ord A nd pin val) (swR c ord A nd pin val):=by
 have hO:c.outs≠[]:=by intro e;have:=ht.out;have:=ht.m1;rw[e]at *;simp at *;omega
 have hkl:(kinds c.nodes 0).length=k:=by rw[ht.ins];simp
 refine⟨λi hi=>?_,λi=>?_⟩
 ·have hpk:=λj (hj:j<A.length)=>(e28 ord A nd pin val hkl hA (λ_=>some (some k)) (swR c ord A nd pin val) j (by omega)).2 hj;cases i with
  |zero=>have h:=c7j c hc hO ord hord _ (hpk 0 hi) nd pin val .nilslice .nilslice rfl rfl;unfold a9r at h;simp only[a4n]at h;rw[a86 (a1q c.nodes _)]at h;exact h
  |succ i=>have hP:=λ(d:Bool) (H:a02)=>c0s (d:=d) H c hc hO _ (hpk i (by omega)) _ (hpk (i+1) hi) nd pin val hf ord hord;unfold a9r at hP;rw[a86 (pdN c ord nd pin val _ _)]at hP;have h:=c7i c (fn1 c) (b00 c) ⟨some (some k),inA (xA A) (i+1),swR c ord A nd pin val (i+1),swS c ord A nd pin val (i+1)⟩ ⟨some (some k),inA (xA A) i,swR c ord A nd pin val i,swS c ord A nd pin val i⟩ nd pin val _ _ (a1d _) (by simp only[go_sem]) (a18 _) (a1b _ _) (b48 _) (by simp only[go_sem]) hP;simp only[a4n]at h;exact h
 ·cases i with
  |zero=>show(a14 _ _).length=m;rw[a5u,ht.out]
  |succ i=>show(a14 _ _).length=m;rw[a5u,ht.out]
def b9n:List (List AV)→AV|[]=>.nilslice|x::r=>.islice (x::r) (some (r.length+1))
theorem b5y(l:List (List AV)):refs (b9n l)=[]:=by cases l<;>rfl
theorem d8c(i:Nat)(W O:List Nat)(n:Nat):∀r∈msQ i W O n,c0t r=true:=by
 intro r hr;simp only[msQ,List.mem_flatMap]at hr;obtain⟨q,_,hr⟩:=hr;split at hr
 ·rw[List.mem_singleton]at hr;subst hr;rfl
 ·cases hr
theorem c4o{c:Cir}{P:List AV}{nd:Nat}{pin:Int}{val:Nat}{rows:List (List AV)}(hfl:FlatR rows)(hni:rows.all c0t=true)(hP:a0e P=[])
 (hrun:∃r:AV×a02,(∃H1,(rows=[]∧r=(.tuple [.nilslice,.int .i64 0],H1))∨(rows≠[]∧r=(.tuple [.slice 4 0 rows.length (some rows.length),.int .i64 0],H1)∧a01 H1 4=some (.row 3 rows)))∧sem L.env Mf 26 [.agg c.enc,.agg P,.islice [[.int .u8 1,.int .i64 nd,.int .i64 pin,.int .u8 val,.int .i64 0]] (some 1)] []=some r)
 {d:Bool}(H:a02)(W:AV)(hW:a3a 0 false (a4h (a01 H) 0 12) W=some (.islice [[.int .u8 1,.int .i64 nd,.int .i64 pin,.int .u8 val,.int .i64 0]] (some 1))) :
 a0a L.env d (sem L.env Mf) (.func (.func 26) [] []) [.agg c.enc,.agg P,W] H=some (.tuple [b9n rows,.int .i64 0],H,List.range H.length):=by
 obtain⟨r,⟨H1,h1⟩,hr⟩:=hrun;have hfa:a56 0 false (a4h (a01 H) 0 12) [.agg c.enc,.agg P,W]=some [.agg c.enc,.agg P,.islice [[.int .u8 1,.int .i64 nd,.int .i64 pin,.int .u8 val,.int .i64 0]] (some 1)]:=by rw[a3l,a0j _ _ _ (.agg c.enc) (by rw[a0s];exact a3q c),a3l,a0j _ _ _ (.agg P) (by rw[a0s];exact hP),a3l,hW];rfl
 rcases h1 with ⟨rfl,rfl⟩|⟨hne,rfl,hb⟩
 ·exact a6u (args:=[.agg c.enc,.agg P,W]) (by kernel_rfl) (by kernel_rfl) rfl hfa hr rfl rfl
 ·obtain⟨x,rs,rfl⟩:=List.exists_cons_of_ne_nil hne;have hcl:a6t H1 4=some (.row 3 (x::rs)):=by
   unfold a6t;rw[hb];show(bif (x::rs).all c0t then _ else _)=_;rw[hni];rfl
  have h4:((x::rs).drop 0).take (rs.length+1)=x::rs:=by rw[List.drop_zero];exact List.take_of_length_le (by simp)
  have h5:=a17 (m:=0) (d:=a4h (a6t H1) 0 11) hfl;refine a6u (args:=[.agg c.enc,.agg P,W]) (by kernel_rfl) (by kernel_rfl) rfl hfa hr rfl ?_;simp+decide only[go_sem,a5w,a4r,hcl,a95,a0g,h4,h5,b9n,List.length_cons,Nat.zero_add,Nat.le_refl,decide_true,decide_false,cond_true,cond_false]
theorem d7h{nodes:List Nd}{f:Flt}(hf:FltOk nodes f):FltOk nodes ⟨0,f.node,f.pin,f.value,0⟩:=⟨.inl rfl,hf.node,hf.pin,hf.value,by have:=hf.node;show 0<nodes.length;omega,λ_=>rfl,λh=>absurd rfl h⟩
theorem e1y{v:Nat}(h:v≤2):xz v=v:=by unfold xz;split<;>omega
theorem c9o{A:List (Rep×List Nat)}(hA:∀a∈A,∀v∈a.2,v≤2)(i:Nat):inA (xA A) i=inA A i:=by
 rw[c02];have:∀v∈inA A i,v≤2:=by
  unfold inA;rw[List.getD_eq_getElem?_getD];cases h:A[i]? with
  |none=>intro v hv;cases hv
  |some a=>exact hA a (List.mem_of_getElem? h)
 exact(List.map_congr_left λv hv=>e1y (this v hv)).trans (List.map_id _)
theorem e3c{w g:Nat}:(c0u w g=true∧(w:Int)≤1∧(g:Int)≤1∧¬(w:Int)=g)∨(c0u w g=false∧(¬(w:Int)≤1∨((w:Int)≤1∧¬(g:Int)≤1)∨((w:Int)≤1∧(g:Int)≤1∧(w:Int)=g))):=by
 unfold c0u;by_cases h1:w≤1<;>by_cases h2:g≤1
 ·by_cases h3:w=g
  ·subst h3;have:w=0∨w=1:=by omega
   rcases this with rfl|rfl
   ·exact .inr ⟨rfl,.inr (.inr ⟨by omega,by omega,rfl⟩)⟩
   ·exact .inr ⟨rfl,.inr (.inr ⟨by omega,by omega,rfl⟩)⟩
  ·refine .inl ⟨?_,by omega,by omega,by omega⟩;have:(w=0∧g=1)∨(w=1∧g=0):=by omega
   rcases this with ⟨rfl,rfl⟩|⟨rfl,rfl⟩<;>rfl
 ·exact .inr ⟨by simp;omega,.inr (.inl ⟨by omega,by omega⟩)⟩
 ·exact .inr ⟨by simp;omega,.inl (by omega)⟩
 ·exact .inr ⟨by simp;omega,.inl (by omega)⟩
theorem d9n{v:Nat}(h:v≤3):d1p 0 (a5d 48 49 v):=by
 have:v=0∨v=1∨v=2∨v=3:=by omega
 rcases this with rfl|rfl|rfl|rfl
 ·exact .inl ⟨rfl,.inl (by decide)⟩
 ·exact .inl ⟨rfl,.inr (.inl (by decide))⟩
 ·exact .inl ⟨rfl,.inr (.inr (by decide))⟩
 ·exact .inl ⟨rfl,.inr (.inr (by decide))⟩
theorem d50{v:Nat}(h:v≤3):d1p 1 (a5d 76 72 v):=by
 have:v=0∨v=1∨v=2∨v=3:=by omega
 rcases this with rfl|rfl|rfl|rfl
 ·exact .inr ⟨rfl,.inl (by decide)⟩
 ·exact .inr ⟨rfl,.inr (.inl (by decide))⟩
 ·exact .inr ⟨rfl,.inr (.inr (by decide))⟩
 ·exact .inr ⟨rfl,.inr (.inr (by decide))⟩
theorem d72{k m:Nat}{a b:List Nat}(ha:a.length=k)(hb:b.length=m)(ha3:∀v∈a,v≤3)(hb3:∀v∈b,v≤3):VecOk (sgs k m) (cyc a b):=by
 refine⟨by unfold cyc;rw[List.length_append,List.length_map,List.length_map,a46];omega,?_⟩;intro i g y hg hy;unfold sgs at hg;unfold cyc at hy;by_cases h:i<k
 ·rw[List.getElem?_append_left (by simpa using h),List.getElem?_map,List.getElem?_range h]at hg;rw[List.getElem?_append_left (by simp;omega),List.getElem?_map]at hy;cases hg;obtain⟨v,hv,rfl⟩:=Option.map_eq_some_iff.1 hy;exact d9n (ha3 v (List.mem_of_getElem? hv))
 ·rw[List.getElem?_append_right (by simp;omega),List.getElem?_map]at hg;rw[List.getElem?_append_right (by simp;omega),List.getElem?_map]at hy;obtain⟨j,hj,rfl⟩:=Option.map_eq_some_iff.1 hg;obtain⟨v,hv,rfl⟩:=Option.map_eq_some_iff.1 hy;exact d50 (hb3 v (List.mem_of_getElem? hv))
theorem e22(c:Cir){k m:Nat}(ht:Tio c k m)(ord:List Nat)(A:List (Rep×List Nat))(hA:∀a∈A,a.2.length=k∧∀v∈a.2,v≤3):∀s∈gdC c ord A,VecOk (sgs k m) s:=by
 intro s hs;obtain⟨i,hi⟩:=List.getElem?_of_mem hs;have hl:(gdC c ord A).length=A.length:=b89 (c1q c ord A).symm;have hil:i<A.length:=by have:=(List.getElem?_eq_some_iff.1 hi).1;omega
 obtain⟨a,ha⟩:∃a,A[i]?=some a:=⟨_,z9e hil⟩
 have hc:(gdC c ord A)[i]?=some (cyc a.2 (ouA c ord A i)):=b8a ha (c8e c ord A hil);rw[hc]at hi;cases hi;obtain⟨h1,h2⟩:=hA a (List.mem_of_getElem? ha);exact d72 h1 (by unfold ouA;rw[a5u,ht.out]) h2 (c3g c ord A (λv hv=>by rw[a76 ha]at hv;exact h2 v hv))
def xP(q:List Nat)(k:Nat):List Nat:=(q.take k).map xz++q.drop k
theorem f3a(q:List Nat):xP q 0=q:=by simp[xP]
theorem e21(q:List Nat):xP q q.length=q.map xz:=by simp[xP]
theorem c2y(q:List Nat)(k:Nat):(xP q k).length=q.length:=by simp[xP];omega
theorem e73{q:List Nat}{k v:Nat}(h:q[k]?=some v):(xP q k)[k]?=some v:=by have hk:=(List.getElem?_eq_some_iff.1 h).1;unfold xP;rw[List.getElem?_append_right (by simp;omega)];simp only[List.length_map,List.length_take,List.getElem?_drop];rw[←h];congr 1;omega
theorem f2z{q:List Nat}{k v:Nat}(h:q[k]?=some v):xP q (k+1)=(xP q k).set k (xz v):=by
 have hk:=(List.getElem?_eq_some_iff.1 h).1;apply List.ext_getElem?;intro j;rw[List.getElem?_set,c2y];by_cases hj:k=j
 ·subst hj;rw[if_pos rfl,if_pos hk];unfold xP;rw[List.getElem?_append_left (by simp;omega),List.getElem?_map,List.getElem?_take,if_pos (by omega),h];rfl
 ·rw[if_neg hj];unfold xP;by_cases hl:j<k
  ·rw[List.getElem?_append_left (by simp;omega),List.getElem?_append_left (by simp;omega),List.getElem?_map,List.getElem?_map,List.getElem?_take,List.getElem?_take,if_pos (by omega),if_pos hl]
  ·rw[List.getElem?_append_right (by simp;omega),List.getElem?_append_right (by simp;omega)];simp only[List.length_map,List.length_take,List.getElem?_drop]
   congr 1;omega
def xQ(qs:List (List Nat))(i:Nat):List (List Nat):=(qs.take i).map (λq=>q.map xz)++qs.drop i
theorem f2y(qs:List (List Nat)):xQ qs 0=qs:=by simp[xQ]
theorem e20(qs:List (List Nat)):xQ qs qs.length=qs.map (λq=>q.map xz):=by simp[xQ]
theorem a9l(qs:List (List Nat))(i:Nat):(xQ qs i).length=qs.length:=by simp[xQ];omega
theorem e72{qs:List (List Nat)}{i:Nat}{q:List Nat}(h:qs[i]?=some q):(xQ qs i)[i]?=some q:=by have hk:=(List.getElem?_eq_some_iff.1 h).1;unfold xQ;rw[List.getElem?_append_right (by simp;omega)];simp only[List.length_map,List.length_take,List.getElem?_drop];rw[←h];congr 1;omega
theorem f2x{qs:List (List Nat)}{i:Nat}{q:List Nat}(h:qs[i]?=some q):xQ qs (i+1)=(xQ qs i).set i (q.map xz):=by
 have hk:=(List.getElem?_eq_some_iff.1 h).1;apply List.ext_getElem?;intro j;rw[List.getElem?_set,a9l];by_cases hj:i=j
 ·subst hj;rw[if_pos rfl,if_pos hk];unfold xQ;rw[List.getElem?_append_left (by simp;omega),List.getElem?_map,List.getElem?_take,if_pos (by omega),h];rfl
 ·rw[if_neg hj];unfold xQ;by_cases hl:j<i
  ·rw[List.getElem?_append_left (by simp;omega),List.getElem?_append_left (by simp;omega),List.getElem?_map,List.getElem?_map,List.getElem?_take,List.getElem?_take,if_pos (by omega),if_pos hl]
  ·rw[List.getElem?_append_right (by simp;omega),List.getElem?_append_right (by simp;omega)];simp only[List.length_map,List.length_take,List.getElem?_drop]
   congr 1;omega
theorem d97{qs:List (List Nat)}{i:Nat}{q:List Nat}(h:qs[i]?=some q):(foQ qs)[i]?=some (q.map u8R):=by unfold foQ;rw[List.getElem?_map,h];rfl
theorem d96(qs:List (List Nat))(i:Nat)(q:List Nat):(foQ qs).set i (q.map u8R)=foQ (qs.set i q):=by unfold foQ;rw[List.map_set]
def inF(qs:List (List Nat)):List (Rep×List Nat):=qs.map λq=>(some none,q.map xz)
theorem d8v(qs:List (List Nat))(h:∀q∈qs,q≠[]):((foQ (qs.map λq=>q.map xz)).mapIdx λj f=>[Go.Ax.slF (cpN j) f])=(inF qs).map vlR:=by
 apply List.ext_getElem?;intro j;unfold foQ inF;rw[List.getElem?_mapIdx,List.getElem?_map,List.getElem?_map,List.getElem?_map,List.getElem?_map];cases hj:qs[j]? with
 |none=>rfl
 |some q=>have hq:=h q (List.mem_of_getElem? hj);obtain⟨x,r,rfl⟩:=List.exists_cons_of_ne_nil hq;rfl
theorem d34(i:Nat)(W:List Nat)(n:Nat):msQ i W W n=[]:=by
 induction n with
 |zero=>rfl
 |succ n ih=>
  rw[c1x,ih];have:c0u (W.getD n 0) (W.getD n 0)=false:=by
   unfold c0u;by_cases h:W.getD n 0=0
   ·rw[h];rfl
   ·simp only[h,decide_false,Bool.false_and,Bool.false_or];by_cases h1:W.getD n 0=1
    ·rw[h1];rfl
    ·simp[h1]
  rw[this];rfl
theorem e2a(c:Cir)(ord:List Nat)(A:List (Rep×List Nat))(hA:∀a∈A,∀v∈a.2,v≤2)(nd:Nat)(pin:Int)(val:Nat):swS c ord A nd pin val 0=stA c ord A 0∧swS c ord A nd pin val 1=stA c ord A 1:=by have h:=c9o hA;refine⟨rfl,?_⟩;show a1q c.nodes (gN c ord (inA (xA A) 0) _)=a1q c.nodes (gN c ord (inA A 0) _);rw[h 0];rfl
theorem e7e(c:Cir)(ord:List Nat)(A:List (Rep×List Nat))(hA:∀a∈A,∀v∈a.2,v≤2)(nd:Nat)(pin:Int)(val:Nat):swO c ord A nd pin val 0=ouA c ord A 0:=by have h:=c9o hA;show a14 c.outs (gN c ord (inA (xA A) 0) _)=a14 c.outs (gN c ord (inA A 0) _);rw[h 0];rfl
theorem e7d(c:Cir)(ord:List Nat)(A:List (Rep×List Nat))(hA:∀a∈A,∀v∈a.2,v≤2)(nd:Nat)(pin:Int)(val:Nat):swO c ord A nd pin val 1=pdO c ord nd pin val ⟨none,inA A 0,none,stA c ord A 0⟩ ⟨none,inA A 1,none,stA c ord A 1⟩:=by have h:=c9o hA;have h2:=e2a c ord A hA nd pin val;show pdO c ord nd pin val ⟨none,inA (xA A) 0,none,swS c ord A nd pin val 0⟩ ⟨none,inA (xA A) 1,none,swS c ord A nd pin val 1⟩=_;rw[h 0,h 1,h2.1,h2.2]
theorem c7u(c:Cir)(ord:List Nat)(A:List (Rep×List Nat))(hA:∀a∈A,∀v∈a.2,v≤2)(nd:Nat)(pin:Int)(val:Nat)(m:Nat):msI (ouA c ord A) (swO c ord A nd pin val) m 2=msQ 1 (ouA c ord A 1) (swO c ord A nd pin val 1) m:=by rw[d36,d36,e7e c ord A hA,d34];rfl
theorem c8p(i:Nat)(W O:List Nat)(q:Nat):∀d:Nat,∃t,msQ i W O (q+d)=msQ i W O q++t
 |0=>⟨[],by simp⟩
 |d+1=>by obtain⟨t,h⟩:=c8p i W O q d;exact⟨_,by rw[show q+(d+1)=q+d+1 from rfl,c1x,h,List.append_assoc]⟩
theorem e3d{i:Nat}{W O:List Nat}{q m:Nat}(h:q<m)(hm:c0u (W.getD q 0) (O.getD q 0)=true):(msQ i W O m)[(msQ i W O q).length]?=some (b0q i q (O.getD q 0)):=by obtain⟨t,ht⟩:=c8p i W O (q+1) (m-(q+1));rw[show q+1+(m-(q+1))=m by omega,c1x,hm,if_pos rfl]at ht;rw[ht,List.append_assoc,List.getElem?_append_right (Nat.le_refl _),Nat.sub_self];rfl
theorem d8e{w g:Nat}:(c0u w g=true∧(w:Int)≤1∧(g:Int)≤1∧¬(w:Int)=g)∨(c0u w g=false∧(¬(w:Int)≤1∨((w:Int)≤1∧¬(g:Int)≤1)∨((w:Int)≤1∧(g:Int)≤1∧(w:Int)=g))):=e3c
set_option maxHeartbeats 200000000
theorem d23(c:Cir)(hc:c.wf){k m:Nat}(ht:Tio c k m)(ord:List Nat)(hord:OrdOf c ord)(A:List (Rep×List Nat))(hAl:A.length≤8)(hA:∀a∈A,a.2.length=k∧∀v∈a.2,v≤3)(hvo:∀s∈gdC c ord A,VecOk (sgs k m) s)
 (nd:Nat)(pin:Int)(val:Nat)(hf:FltOk c.nodes ⟨0,nd,pin,val,0⟩)(O S:Nat→List Nat)(R:Nat→Rep)(hs:StpS c A k m nd pin val O S R)(hR0:sl (R 0) ((S 0).map u8R) = .islice ((List.replicate (kinds c.nodes 14).length 2).map u8R) (some (kinds c.nodes 14).length)) :
 ∃r:AV×a02,(∃H1,(msI (ouA c ord A) O m A.length=[]∧r=(.tuple [.nilslice,.int .i64 0],H1))∨(msI (ouA c ord A) O m A.length≠[]∧r=(.tuple [.slice 4 0 (msI (ouA c ord A) O m A.length).length (some (msI (ouA c ord A) O m A.length).length),.int .i64 0],H1)∧a01 H1 4=some (.row 3 (msI (ouA c ord A) O m A.length))))∧
 sem L.env Mf 26 [.agg c.enc,.agg (a96 (sgs k m) (gdC c ord A)),.islice [[.int .u8 1,.int .i64 nd,.int .i64 pin,.int .u8 val,.int .i64 0]] (some 1)] []=some r:=by
 have hO:c.outs≠[]:=by intro e;have:=ht.out;have:=ht.m1;rw[e]at *;simp at *;omega
 have hsg:=λ(d:Bool) (H:a02)=>a7r (d:=d) H c hc ht;have hin:=λ(d:Bool) (H:a02)=>a3w (d:=d) H c (by have:=hc.len;omega);have hvl:(gdC c ord A).length=A.length:=b89 (c1q c ord A).symm;have hcy:=λ(d:Bool) (H:a02)=>b46 ht.k1 ht.k4 ht.m1 ht.m4 (vs:=gdC c ord A) (by omega) hvo (d:=d) H;have hfl:=λ(d:Bool) (H:a02)=>d0e ht.k1 ht.k4 ht.m1 ht.m4 (vs:=gdC c ord A) (by omega) hvo (d:=d) H;rw[hvl]at hcy hfl;have heq:=λ(d:Bool) (H:a02) (c1 c2:Option Nat)=>c1g (d:=d) H (sgs k m) c1 c2 (by have:=a46 k m;have:=ht.k4;have:=ht.m4;omega);have hck:=λ(d:Bool) (H:a02)=>a84 (d:=d) H c hc nd pin val hf;obtain⟨r0,e0⟩:=a4f (kinds c.nodes 0);rw[e0,ht.ins]at hin;obtain⟨t1,t2,t3,t4,t5,t6⟩:=ht;have hn:=hc.len;have hsl:=a46 k m;have hkl:(kinds c.nodes 0).length=k:=by rw[t1];simp
 obtain⟨V,hV⟩:∃V,b1t (gdC c ord A)=V:=⟨_,rfl⟩
 have hVr:refs V=[]:=by rw[←hV];exact a6i _
 have hVs:V.storable=true:=by rw[←hV];cases gdC c ord A<;>rfl
 have hVc:V.cells=[V]:=by rw[←hV];cases gdC c ord A<;>rfl
 have hVj:V.isJunk=false:=by rw[←hV];cases gdC c ord A<;>rfl
 have hpr:a96 (sgs k m) (gdC c ord A)=[.islice ((sgs k m).map Sgn.row) (some (k+m)),.islice [tmR] (some 1),V]:=by unfold a96;rw[hsl,hV]
 rw[hpr]at hcy hfl;rw[hpr];simp only[Cir.enc]at hsg hin hck⊢;have c3:¬((1024:Int)<A.length):=by omega
 have hVn:∀π,ren π V=V:=λπ=>a0d π _ hVr;have hCf:∀π:Nat→Option Nat,a0f π (.row 4 [[sl c.nc (c.nodes.map Nd.enc),sl c.mc (c.names.map a1h),.nilslice,sl c.oc (c.outs.map a0h)]]) = .row 4 [[sl c.nc (c.nodes.map Nd.enc),sl c.mc (c.names.map a1h),.nilslice,sl c.oc (c.outs.map a0h)]]:=λπ=>by simp+decide only[go_sem]
 have hCr:a0y (some (.row 4 [[sl c.nc (c.nodes.map Nd.enc),sl c.mc (c.names.map a1h),.nilslice,sl c.oc (c.outs.map a0h)]]))=[]:=by simp+decide only[go_sem]
 have hPf:∀π:Nat→Option Nat,a0f π (.row 3 [[.islice ((sgs k m).map Sgn.row) (some (k+m)),.islice [tmR] (some 1),V]]) = .row 3 [[.islice ((sgs k m).map Sgn.row) (some (k+m)),.islice [tmR] (some 1),V]]:=λπ=>by simp+decide only[go_sem,hVn]
 have hPr:a0y (some (.row 3 [[.islice ((sgs k m).map Sgn.row) (some (k+m)),.islice [tmR] (some 1),V]]))=[]:=by simp+decide only[go_sem,hVr]
 have hml:=c8q (ouA c ord A) O m A.length
 (refine svE Tryz.f26 ?_;simp only[Tryz.f26,gS])
 (repeat first|simp only[ww]|(apply xa;simp+decide only[go_sem,hsg,hVs,hVc,hVj,c3];rfl;kernel_rfl))
 refine a0p (σ:=Nat) kp26_1 (λj=>[(2,.islice [[.int .u8 1,.int .i64 nd,.int .i64 pin,.int .u8 val,.int .i64 0]] (some 1)),(3,.ptr 0 0 0),(4,.ptr 1 0 0),(8,.islice ((sgs k m).map Sgn.row) (some (k+m))),(39,.islice [[.int .u8 1,.int .i64 nd,.int .i64 pin,.int .u8 val,.int .i64 0]] (some 1)),(40,.int .i64 1),(41,.int .i64 j)]) (λ_=>[some (.row 4 [[sl c.nc (c.nodes.map Nd.enc),sl c.mc (c.names.map a1h),.nilslice,sl c.oc (c.outs.map a0h)]]),some (.row 3 [[.islice ((sgs k m).map Sgn.row) (some (k+m)),.islice [tmR] (some 1),V]])]) (λj=>1-j) (λj=>j≤1) 0 ?_ (Nat.zero_le _) ?_
 ·(simp+decide only[go_sem,a03,a00,hCf,hCr,hPf,hPr]<;>rfl)<;>rfl
 ·intro j hj;by_cases hj0:j=0
  ·subst hj0
   (repeat first|simp only[ww]|(apply xa;simp+decide only[go_sem,hck];rfl;kernel_rfl))
   refine a27 1 ?_ (by omega) (by omega)
   (simp+decide only[go_sem,a03,a00,hCf,hCr,hPf,hPr]<;>rfl)<;>rfl
  obtain rfl:j=1:=by omega
  have hst:=λ(d:Bool)=>c1a (d:=d) (some (.row 4 [[sl c.nc (c.nodes.map Nd.enc),sl c.mc (c.names.map a1h),.nilslice,sl c.oc (c.outs.map a0h)]])) (some (.row 3 [[.islice ((sgs k m).map Sgn.row) (some (k+m)),.islice [tmR] (some 1),V]])) c hc nd pin val;have gg1:=b00 c;have gg2:=λπ=>a0d π _ gg1
  (repeat first|simp only[ww]|(apply xa;simp+decide only[go_sem,hcy,hfl,heq,hst,hin,hVs,hVc,hVj,c3,List.length_map,List.length_range];rfl;kernel_rfl))
  have hMr:=λi=>b3t c A k i;have hMn:=λi π=>a0d π _ (b3t c A k i);have hSr:=λi=>a1b (R i) ((S i).map u8R);have hSn:=λi π=>a0d π _ (a1b (R i) ((S i).map u8R));have hIr:=λi=>b7s c A k i;have hIn:=λi π=>a0d π _ (b7s c A k i);have hLr:=λi=>b7r S R i;have hLn:=λi π=>a0d π _ (b7r S R i);have hMf:=λn=>d4b (ouA c ord A) O m n;have hMl:=λn=>c8q (ouA c ord A) O m n;refine a0p (σ:=Nat) kp26_4 (λi=>[(16,.ptr 0 0 0),(17,.int .i64 k),(18,grV 4 (msI (ouA c ord A) O m i)),(82,.islice ((gdC c ord A).map vcR) (some A.length)),(83,.int .i64 A.length),(84,.int .i64 i)]) (λi=>some (.row 3 [[.func (.func 123) [] [.ptr 1 0 0,.ptr 2 0 0,.iptr [sl c.nc (c.nodes.map Nd.enc),sl c.mc (c.names.map a1h),.nilslice,sl c.oc (c.outs.map a0h)],.iptr [.islice [[.int .u8 1,.int .i64 nd,.int .i64 pin,.int .u8 val,.int .i64 0]] (some 1)],.ptr 3 0 0],gI c A k i,sl (R i) ((S i).map u8R)]])::some (.row 1 [[.bool (decide (i=0))]])::some (.row 1 [[fn1 c]])::some (.row 2 [[lI c A k i,lS S R i]])::grH 3 (msI (ouA c ord A) O m i)) (λi=>A.length-i) (λi=>i≤A.length) 0 ?_ (Nat.zero_le _) ?_
  ·have e:msI (ouA c ord A) O m 0=[]:=rfl;rw[e,a0t,a0u];rw[hR0];show _=some (_,(some (AObj.row 3 [[.func (.func 123) [] [.ptr 1 0 0,.ptr 2 0 0,.iptr [sl c.nc (c.nodes.map Nd.enc),sl c.mc (c.names.map a1h),.nilslice,sl c.oc (c.outs.map a0h)],.iptr [.islice [[.int .u8 1,.int .i64 nd,.int .i64 pin,.int .u8 val,.int .i64 0]] (some 1)],.ptr 3 0 0],.islice ((List.replicate (kinds c.nodes 0).length 2).map u8R) (some (kinds c.nodes 0).length),_]])::some (AObj.row 1 [[.bool true]])::some (AObj.row 1 [[fn1 c]])::some (AObj.row 2 [[.nilslice,.nilslice]])::_:a02))
   (simp+decide only[go_sem,a03,a00,hCf,hCr,hPf,hPr,gg1,gg2,hvl]<;>rfl)<;>rfl
  ·intro i hi;by_cases hlt:i<A.length
   ·obtain⟨a,ha⟩:∃a,A[i]?=some a:=⟨_,z9e hlt⟩
    have hvg:(gdC c ord A)[i]?=some (cyc a.2 (ouA c ord A i)):=b8a ha (c8e c ord A hlt);obtain⟨hak,hav⟩:=hA a (List.mem_of_getElem? ha);have d1:(i:Int)<A.length:=by omega
    have hvc:∀s,vcR s=[.int .i64 0,.str s,.int .i64 1]:=λs=>rfl;have hrm:k≤1000000000:=by omega
    have hMI:=b3t c A k i;have hSt:=hs.st i hlt;have hmf:=hMf i;have hmlen:=hMl i;have hms:=d36 (ouA c ord A) O m i;have hcyc:=λ(d:Bool) (K:a02)=>c2g (d:=d) K c nd pin val (gI c A k i) (sl (R i) ((S i).map u8R)) (a2p (O i)) (sl (R (i+1)) ((S (i+1)).map u8R)) (lI c A k i) (lS S R i) (decide (i=0)) false (fn1 c) (inA (xA A) i) (some k) gg1 (b3t c A k i) (a1b _ _) (b7s c A k i) (b7r S R i) (by simp only[go_sem]) (by simp only[go_sem]) (by simp only[go_sem]) (a1d _) (by simp only[go_sem]) (a18 _) (a1b _ _) (b48 _) (by simp only[go_sem]) (d0u _) (by simp only[go_sem]) hSt;have e3:AV.islice ((inA (xA A) i).map u8R) (some k)=gI c A k (i+1):=rfl;rw[b8d (hs.ol i) t5,e3]at hcyc;have hMs:=b3t c A k (i+1);have hWl:(ouA c ord A i).length=m:=by unfold ouA;rw[a5u,t4]
    have hWo:∀w∈ouA c ord A i,w≤3:=c3g c ord A (i:=i) (λv hv=>by rw[a76 ha]at hv;exact hav v hv);have hOl:=hs.ol i;have hlI:lI c A k (i+1)=gI c A k (i+1):=rfl;have hlS:lS S R (i+1)=sl (R i) ((S i).map u8R):=rfl;have hdf:decide (i+1=0)=false:=decide_eq_false (by omega);have hLI:=b7s c A k i;have hLS:=b7r S R i;have hSI1:=a1b (R i) ((S i).map u8R);have hSJ1:=a1b (R (i+1)) ((S (i+1)).map u8R);obtain⟨MI,hMI0⟩:∃MI,gI c A k i=MI:=⟨_,rfl⟩
    obtain⟨MJ,hMJ0⟩:∃MJ,gI c A k (i+1)=MJ:=⟨_,rfl⟩
    obtain⟨SI,hSI⟩:∃SI,sl (R i) ((S i).map u8R)=SI:=⟨_,rfl⟩
    obtain⟨SJ,hSJ⟩:∃SJ,sl (R (i+1)) ((S (i+1)).map u8R)=SJ:=⟨_,rfl⟩
    obtain⟨LI,hLI0⟩:∃LI,lI c A k i=LI:=⟨_,rfl⟩
    obtain⟨LS,hLS0⟩:∃LS,lS S R i=LS:=⟨_,rfl⟩
    obtain⟨GG,hGG⟩:∃GG,fn1 c=GG:=⟨_,rfl⟩
    obtain⟨bb,hbb⟩:∃bb,decide (i=0)=bb:=⟨_,rfl⟩
    rw[hMI0]at hMI;rw[hMJ0]at hMs;rw[hSI]at hSI1;rw[hSJ]at hSJ1;rw[hLI0]at hLI;rw[hLS0]at hLS;rw[hGG]at gg1 gg2;rw[hMI0,hSI,hSJ,hLI0,hLS0,hGG,hbb,hMJ0]at hcyc;rw[hMI0,hSI,hLI0,hLS0,hGG,hbb];have nMI:=λπ=>a0d π _ hMI;have nMJ:=λπ=>a0d π _ hMs;have nSI:=λπ=>a0d π _ hSI1;have nSJ:=λπ=>a0d π _ hSJ1;have nLI:=λπ=>a0d π _ hLI;have nLS:=λπ=>a0d π _ hLS;have hap1:∀X:Option AObj,[some (.row 3 [[.func (.func 123) [] [.ptr 1 0 0,.ptr 2 0 0,.iptr [sl c.nc (c.nodes.map Nd.enc),sl c.mc (c.names.map a1h),.nilslice,sl c.oc (c.outs.map a0h)],.iptr [.islice [[.int .u8 1,.int .i64 nd,.int .i64 pin,.int .u8 val,.int .i64 0]] (some 1)],.ptr 3 0 0],MJ,SJ]]),some (.row 1 [[.bool false]]),some (.row 1 [[GG]]),some (.row 2 [[MJ,SI]])]++[X]=[some (.row 3 [[.func (.func 123) [] [.ptr 1 0 0,.ptr 2 0 0,.iptr [sl c.nc (c.nodes.map Nd.enc),sl c.mc (c.names.map a1h),.nilslice,sl c.oc (c.outs.map a0h)],.iptr [.islice [[.int .u8 1,.int .i64 nd,.int .i64 pin,.int .u8 val,.int .i64 0]] (some 1)],.ptr 3 0 0],MJ,SJ]]),some (.row 1 [[.bool false]]),some (.row 1 [[GG]]),some (.row 2 [[MJ,SI]]),X]:=λ_=>rfl;have hap2:∀X Y:Option AObj,[some (.row 3 [[.func (.func 123) [] [.ptr 1 0 0,.ptr 2 0 0,.iptr [sl c.nc (c.nodes.map Nd.enc),sl c.mc (c.names.map a1h),.nilslice,sl c.oc (c.outs.map a0h)],.iptr [.islice [[.int .u8 1,.int .i64 nd,.int .i64 pin,.int .u8 val,.int .i64 0]] (some 1)],.ptr 3 0 0],MJ,SJ]]),some (.row 1 [[.bool false]]),some (.row 1 [[GG]]),some (.row 2 [[MJ,SI]])]++[X,Y]=[some (.row 3 [[.func (.func 123) [] [.ptr 1 0 0,.ptr 2 0 0,.iptr [sl c.nc (c.nodes.map Nd.enc),sl c.mc (c.names.map a1h),.nilslice,sl c.oc (c.outs.map a0h)],.iptr [.islice [[.int .u8 1,.int .i64 nd,.int .i64 pin,.int .u8 val,.int .i64 0]] (some 1)],.ptr 3 0 0],MJ,SJ]]),some (.row 1 [[.bool false]]),some (.row 1 [[GG]]),some (.row 2 [[MJ,SI]]),X,Y]:=λ_ _=>rfl;obtain⟨rows,hrows⟩:∃rows,msI (ouA c ord A) O m i=rows:=⟨_,rfl⟩
    rw[hrows]at hmf hms hmlen⊢;obtain⟨z,hzz⟩:∃z:List AV,[AV.int .u8 0]=z:=⟨_,rfl⟩
    have hzr:a0e z=[]:=by rw[←hzz];rfl
    have hzl:1≤z.length:=by rw[←hzz];exact Nat.le_refl 1
    have hzd:z.drop 1=[]:=by rw[←hzz];rfl
    obtain⟨g,hg⟩:∃g:Nat→List AV,g=λj=>u8R ((inA (xA A) i).getD j 0):=⟨_,rfl⟩
    have hff:∀j,a0e (g j)=[]:=λj=>by rw[hg];rfl
    have hfl1:=λj=>a2t (f:=g) (z:=z) (n:=k) (i:=j) hzr hff;have hx1:=λj=>a08 (hfl1 j);have hx2:=λj π=>a06 π (hfl1 j);have hV0:FlatR [[AV.int .i64 0,AV.str (cyc a.2 (ouA c ord A i)),AV.int .i64 1]]:=FlatR.cons rfl FlatR.nil;have hue:upT g z k k=(inA (xA A) i).map u8R:=by
     rw[b6z,hg];have hl:(inA (xA A) i).length=k:=c01 (by rw[a76 ha];exact hak);apply List.ext_getElem?;intro q;rw[List.getElem?_map,List.getElem?_map];by_cases hq:q<k
     ·rw[List.getElem?_range hq,z9e (by omega)];simp only[Option.map_some,List.getD_eq_getElem?_getD,z9e (show q<(inA (xA A) i).length by omega),Option.getD_some]
     ·rw[List.getElem?_eq_none (by simp;omega),List.getElem?_eq_none (by omega)];rfl
    have hul:=a6c (f:=g) (z:=z) (n:=k) (i:=k);have huf:=hfl1 k;rw[hue]at hul huf;have htk:((inA (xA A) i).map u8R).take k=(inA (xA A) i).map u8R:=List.take_of_length_le (by omega);have hfr:=λm d=>a17 (m:=m) (d:=d) huf;obtain⟨W,hW⟩:∃W,ouA c ord A i=W:=⟨_,rfl⟩
    obtain⟨OO,hOO⟩:∃OO,O i=OO:=⟨_,rfl⟩
    rw[hW]at hvg hms hV0 hWl hWo;rw[hOO]at hcyc hms hOl;obtain⟨cy,hcyd⟩:∃cy,cyc a.2 W=cy:=⟨_,rfl⟩
    rw[hcyd]at hvg hV0;cases rows with
    |nil=>
     rw[a0t,a0u];simp only[List.nil_append]at hms
     (repeat first|simp only[ww]|(apply xa;simp+decide only[go_sem,d1,hlt,hvg,hvc,hrm,List.length_map];rfl;kernel_rfl))
     rw[hzz];refine b2i kp26_6 rfl 5 rfl (σ:=Nat) (λj=>[(16,.ptr 0 0 0),(17,.int .i64 k),(18,.nilslice),(19,.int .i64 i),(20,.ptr 4 0 0),(21,.slice 5 0 k (some k)),(82,.islice ((gdC c ord A).map vcR) (some A.length)),(83,.int .i64 A.length),(84,.int .i64 i),(92,.int .i64 k),(93,.int .i64 j),(1000005,.junk)])
      (λj=>[some (.row 3 [[.func (.func 123) [] [.ptr 1 0 0,.ptr 2 0 0,.iptr [sl c.nc (c.nodes.map Nd.enc),sl c.mc (c.names.map a1h),.nilslice,sl c.oc (c.outs.map a0h)],.iptr [.islice [[.int .u8 1,.int .i64 nd,.int .i64 pin,.int .u8 val,.int .i64 0]] (some 1)],.ptr 3 0 0],MI,SI]]),some (.row 1 [[.bool bb]]),some (.row 1 [[GG]]),some (.row 2 [[LI,LS]]),some (.row 3 [[AV.int .i64 0,AV.str cy,AV.int .i64 1]]),some (.row 1 (upT g z k j))]) (λj=>k-j) (λj=>j≤k) 0 ?_ (Nat.zero_le _) ?_
     ·rw[←c73 (f:=g)]
      (simp+decide only[go_sem,a03,a00,hMI,nMI,hSI1,nSI,hLI,nLI,hLS,nLS,gg1,gg2,hx1,hx2]<;>rfl)<;>rfl
     ·intro j hj;by_cases hjl:j<k
      ·have d2:(j:Int)<k:=by omega
       have hwj:=wI1 (n:=j) (by omega);obtain⟨v,hv⟩:∃v,a.2[j]?=some v:=⟨_,z9e (by omega)⟩
       have hvl3:=hav v (List.mem_of_getElem? hv);have hcg:cy[j]?=some (a5d 48 49 v):=by rw[←hcyd];unfold cyc;rw[List.getElem?_append_left (by rw[List.length_map];omega),List.getElem?_map,hv];rfl
       have hcgl:=(List.getElem?_eq_some_iff.1 hcg).1;have hvv:=λ(d:Bool) (H:a02)=>c2z (d:=d) H v hvl3;have hset:=b2l (f:=g) (z:=z) hjl;have hat:=c30 (f:=g) (z:=z) hjl;have hln:=a6c (f:=g) (z:=z) (n:=k) (i:=j);have hfj:g j=[.int .u8 (xz v)]:=by rw[hg];show u8R _=_;rw[c02,a76 ha,List.getD_eq_getElem?_getD,List.getElem?_map,hv];rfl
       rw[hfj]at hset
       (repeat first|simp only[ww]|(apply xa;simp+decide only[go_sem,d2,hjl,hcg,hcgl,hvv,hset,hat,hln,hwj,hzl,hzd];rfl;kernel_rfl))
       refine a27 (j+1) ?_ (by omega) (by omega)
       (simp+decide only[go_sem,a03,a00,hMI,nMI,hSI1,nSI,hLI,nLI,hLS,nLS,gg1,gg2,hx1,hx2]<;>rfl)<;>rfl
      ·obtain rfl:j=k:=by omega
       have d2:¬(j:Int)<j:=by omega
       rw[hue];have hH2:∀Y:Option AObj,b0e 5 [some (.row 3 [[.func (.func 123) [] [.ptr 1 0 0,.ptr 2 0 0,.iptr [sl c.nc (c.nodes.map Nd.enc),sl c.mc (c.names.map a1h),.nilslice,sl c.oc (c.outs.map a0h)],.iptr [.islice [[.int .u8 1,.int .i64 nd,.int .i64 pin,.int .u8 val,.int .i64 0]] (some 1)],.ptr 3 0 0],MI,SI]]),some (.row 1 [[.bool bb]]),some (.row 1 [[GG]]),some (.row 2 [[LI,LS]]),some (.row 3 [[AV.int .i64 0,AV.str cy,AV.int .i64 1]]),Y]=[some (.row 3 [[.func (.func 123) [] [.ptr 1 0 0,.ptr 2 0 0,.iptr [sl c.nc (c.nodes.map Nd.enc),sl c.mc (c.names.map a1h),.nilslice,sl c.oc (c.outs.map a0h)],.iptr [.islice [[.int .u8 1,.int .i64 nd,.int .i64 pin,.int .u8 val,.int .i64 0]] (some 1)],.ptr 3 0 0],MI,SI]]),some (.row 1 [[.bool bb]]),some (.row 1 [[GG]]),some (.row 2 [[LI,LS]]),some (.row 3 [[AV.int .i64 0,AV.str cy,AV.int .i64 1]])]:=λY=>by unfold b0e;simp+decide only[go_sem,List.take_succ_cons,List.take_zero,List.map_cons,List.map_nil,Option.map_some,a9e,a0j _ _ _ _ hMI,a0j _ _ _ _ hSI1,a0j _ _ _ _ hLI,a0j _ _ _ _ hLS,a0j _ _ _ _ gg1,a4g hV0]
       (repeat first|simp only[ww]|(apply xa;simp+decide only[go_sem,d2];rfl;kernel_rfl))
       rw[d05];simp only[List.length_nil,Nat.zero_add,hH2];simp+decide only[go_sem,hfr,htk,hul];rw[e3,hMJ0];have hcc1:=λ(d:Bool)=>hcyc d [some (.row 3 [[AV.int .i64 0,AV.str cy,AV.int .i64 1]])]
       (repeat first|simp only[ww]|(apply xa;simp+decide only[go_sem,hcc1,List.length_map,hOl];rfl;kernel_rfl))
       refine a4j kp26_8 (λN F Hx=>∃(q:Nat) (TV OV:AV),N=m-q∧q≤m∧F=[(16,.ptr 0 0 0),(17,.int .i64 j),(18,OV),(19,.int .i64 i),(20,TV),(82,.islice ((gdC c ord A).map vcR) (some A.length)),(83,.int .i64 A.length),(84,.int .i64 i),(107,.islice (OO.map u8R) (some m)),(108,.int .i64 m),(109,.int .i64 q)]∧Shp8 [AV.int .i64 0,AV.str cy,AV.int .i64 1] [some (.row 3 [[.func (.func 123) [] [.ptr 1 0 0,.ptr 2 0 0,.iptr [sl c.nc (c.nodes.map Nd.enc),sl c.mc (c.names.map a1h),.nilslice,sl c.oc (c.outs.map a0h)],.iptr [.islice [[.int .u8 1,.int .i64 nd,.int .i64 pin,.int .u8 val,.int .i64 0]] (some 1)],.ptr 3 0 0],MJ,SJ]]),some (.row 1 [[.bool false]]),some (.row 1 [[GG]]),some (.row 2 [[MJ,SI]])] (msQ i W OO q) TV OV Hx) m ?_ ?_
       ·refine⟨_,[some (.row 3 [[.func (.func 123) [] [.ptr 1 0 0,.ptr 2 0 0,.iptr [sl c.nc (c.nodes.map Nd.enc),sl c.mc (c.names.map a1h),.nilslice,sl c.oc (c.outs.map a0h)],.iptr [.islice [[.int .u8 1,.int .i64 nd,.int .i64 pin,.int .u8 val,.int .i64 0]] (some 1)],.ptr 3 0 0],MJ,SJ]]),some (.row 1 [[.bool false]]),some (.row 1 [[GG]]),some (.row 2 [[MJ,SI]]),some (.row 3 [[AV.int .i64 0,AV.str cy,AV.int .i64 1]])],?_,0,.ptr 4 0 0,.nilslice,rfl,Nat.zero_le _,rfl,?_⟩
        rotate_left
        ·rw[d35];exact .a rfl rfl rfl rfl
        ·(simp+decide only[go_sem,a03,a00,hMs,nMJ,hSI1,nSI,hSJ1,nSJ,gg1,gg2,hOl,List.length_map]<;>rfl)<;>rfl
       ·rintro N F Hx ⟨q,TV,OV,rfl,hq,rfl,hsh⟩
        have hrf:FlatR (msQ i W OO q):=b2a i W OO q;have hrl:(msQ i W OO q).length≤1000:=by have:=b38 i W OO q;have h8:i*m≤7*4:=Nat.mul_le_mul (by omega) (by omega);omega
        have hqs:=c1x i W OO q;by_cases hqm:q<m
        ·have d3:(q:Int)<m:=by omega
         have hwq:=wI1 (n:=q) (by omega);have hwk:IntKind.i64.wrap ((j:Int)+q)=((j+q:Nat):Int):=by rw[w64 (by omega) (by omega)];omega
         obtain⟨gg,hgg⟩:∃gg,OO[q]?=some gg:=⟨_,z9e (by omega)⟩
         obtain⟨w,hw⟩:∃w,W[q]?=some w:=⟨_,z9e (by omega)⟩
         have hw3:=hWo w (List.mem_of_getElem? hw);rw[List.getD_eq_getElem?_getD,List.getD_eq_getElem?_getD,hgg,hw]at hqs;simp only[Option.getD_some]at hqs;have hcg:cy[j+q]?=some (a5d 76 72 w):=by rw[←hcyd];unfold cyc;rw[List.getElem?_append_right (by rw[List.length_map];omega),List.length_map,hak,Nat.add_sub_cancel_left,List.getElem?_map,hw];rfl
         have hcgl:=(List.getElem?_eq_some_iff.1 hcg).1;have hur:u8R gg=[.int .u8 gg]:=rfl;have hcs:=c3j (w:=w) (g:=gg) hw3;generalize a5d 76 72 w=cb at hcg hcs;rcases hcs with ⟨hm,hb⟩|⟨hm,hb⟩
         ·rw[hm,if_pos rfl]at hqs;have hqa:msQ i W OO (q+1)=(msQ i W OO q)++[b0q i q gg]:=hqs;cases hsh with
          |a h1 h2 h3 h4=>
           subst h2 h3 h4;simp only[hap1,hap2];rcases hb with ⟨b1,b2⟩|⟨b1,b2⟩
           all_goals
            subst b2
            (repeat first|simp only[ww]|(apply xa;simp+decide only[go_sem,d3,hqm,hgg,hur,hwk,hcg,hcgl,b1,hwq];rfl;kernel_rfl))
            refine a1j (m-(q+1)) (by omega) ⟨_,_,?_,q+1,.ptr 5 0 0,.slice 4 0 1 none,rfl,hqm,rfl,by rw[hqa,h1];exact .b (by simp) rfl rfl rfl⟩
            (simp+decide only[go_sem,a03,a00,hMs,nMJ,hSI1,nSI,hSJ1,nSJ,gg1,gg2,hOl,List.length_map,b0q]<;>rfl)<;>rfl
          |b h1 h2 h3 h4=>
           obtain⟨y,ys,hy⟩:∃y ys,msQ i W OO q=y::ys:=List.exists_cons_of_ne_nil h1;rw[hy]at h2 h4 hqa hrf hrl;have hy5:a0e y=[]:=hrf y (List.mem_cons_self ..);have hyf:FlatR ys:=λr hr=>hrf r (List.mem_cons_of_mem _ hr);have hyr:=a08 hyf;have hyn:=λπ=>a06 π hyf;have hy6:∀π,y.map (ren π)=y:=λπ=>by have h:=a06 π (FlatR.cons hy5 FlatR.nil);simpa using h
           simp only[List.length_cons]at h2 hrl;have hyl:ys.length+1+1≤1000000000:=by omega
           subst h2 h3 h4;simp only[hap1,hap2];rcases hb with ⟨b1,b2⟩|⟨b1,b2⟩
           all_goals
            subst b2
            (repeat first|simp only[ww]|(apply xa;simp+decide only[go_sem,d3,hqm,hgg,hur,hwk,hcg,hcgl,b1,hwq,hyl,List.length_cons];rfl;kernel_rfl))
            refine a1j (m-(q+1)) (by omega) ⟨_,_,?_,q+1,.ptr 5 0 0,.slice 4 0 (ys.length+1+1) none,rfl,hqm,rfl,by rw[hqa];exact .b (by simp) (by simp) rfl rfl⟩
            (simp+decide only[go_sem,a03,a00,hMs,nMJ,hSI1,nSI,hSJ1,nSJ,gg1,gg2,hyr,hyn,hy5,hy6,hOl,List.cons_append,List.map_append,List.map_cons,List.map_nil,List.flatMap_append,List.flatMap_cons,List.flatMap_nil,List.length_map,b0q]<;>rfl)<;>rfl
          |c h1 h2 h3 h4=>
           obtain⟨y,ys,hy⟩:∃y ys,msQ i W OO q=y::ys:=List.exists_cons_of_ne_nil h1;rw[hy]at h2 h4 hqa hrf hrl;have hy5:a0e y=[]:=hrf y (List.mem_cons_self ..);have hyf:FlatR ys:=λr hr=>hrf r (List.mem_cons_of_mem _ hr);have hyr:=a08 hyf;have hyn:=λπ=>a06 π hyf;have hy6:∀π,y.map (ren π)=y:=λπ=>by have h:=a06 π (FlatR.cons hy5 FlatR.nil);simpa using h
           simp only[List.length_cons]at h2 hrl;have hyl:ys.length+1+1≤1000000000:=by omega
           subst h2 h3 h4;simp only[hap1,hap2];rcases hb with ⟨b1,b2⟩|⟨b1,b2⟩
           all_goals
            subst b2
            (repeat first|simp only[ww]|(apply xa;simp+decide only[go_sem,d3,hqm,hgg,hur,hwk,hcg,hcgl,b1,hwq,hyl,List.length_cons];rfl;kernel_rfl))
            refine a1j (m-(q+1)) (by omega) ⟨_,_,?_,q+1,.iptr [AV.int .i64 0,AV.str cy,AV.int .i64 1],.slice 4 0 (ys.length+1+1) none,rfl,hqm,rfl,by rw[hqa];exact .c (by simp) (by simp) rfl rfl⟩
            (simp+decide only[go_sem,a03,a00,hMs,nMJ,hSI1,nSI,hSJ1,nSJ,gg1,gg2,hyr,hyn,hy5,hy6,hOl,List.cons_append,List.map_append,List.map_cons,List.map_nil,List.flatMap_append,List.flatMap_cons,List.flatMap_nil,List.length_map,b0q]<;>rfl)<;>rfl
         ·rw[hm,if_neg (by decide),List.append_nil]at hqs;rw[←hqs]at hsh;cases hsh with
          |a h1 h2 h3 h4=>
           subst h2 h3 h4;simp only[hap1,hap2];rcases hb with ⟨b1,b2⟩|⟨b1,b2⟩|⟨b1,b2⟩
           all_goals
            (repeat first|simp only[ww]|(apply xa;simp+decide only[go_sem,d3,hqm,hgg,hur,hwk,hcg,hcgl,b1,b2,hwq];rfl;kernel_rfl))
            refine a1j (m-(q+1)) (by omega) ⟨_,_,?_,q+1,.ptr 4 0 0,.nilslice,rfl,hqm,rfl,.a h1 rfl rfl rfl⟩
            (simp+decide only[go_sem,a03,a00,hMs,nMJ,hSI1,nSI,hSJ1,nSJ,gg1,gg2,hOl,List.length_map]<;>rfl)<;>rfl
          |b h1 h2 h3 h4=>
           rw[←hqs]at hrf;obtain⟨RR,hRR⟩:∃RR,msQ i W OO (q+1)=RR:=⟨_,rfl⟩
           rw[hRR]at hrf h1 h2 h4;have hyr:=a08 hrf;have hyn:=λπ=>a06 π hrf;subst h2 h3 h4;simp only[hap1,hap2];rcases hb with ⟨b1,b2⟩|⟨b1,b2⟩|⟨b1,b2⟩
           all_goals
            (repeat first|simp only[ww]|(apply xa;simp+decide only[go_sem,d3,hqm,hgg,hur,hwk,hcg,hcgl,b1,b2,hwq];rfl;kernel_rfl))
            refine a1j (m-(q+1)) (by omega) ⟨_,_,?_,q+1,.ptr 5 0 0,_,rfl,hqm,rfl,by rw[hRR];exact .b h1 rfl rfl rfl⟩
            (simp+decide only[go_sem,a03,a00,hMs,nMJ,hSI1,nSI,hSJ1,nSJ,gg1,gg2,hyr,hyn,hOl,List.length_map]<;>rfl)<;>rfl
          |c h1 h2 h3 h4=>
           rw[←hqs]at hrf;obtain⟨RR,hRR⟩:∃RR,msQ i W OO (q+1)=RR:=⟨_,rfl⟩
           rw[hRR]at hrf h1 h2 h4;have hyr:=a08 hrf;have hyn:=λπ=>a06 π hrf;subst h2 h3 h4;simp only[hap1,hap2];rcases hb with ⟨b1,b2⟩|⟨b1,b2⟩|⟨b1,b2⟩
           all_goals
            (repeat first|simp only[ww]|(apply xa;simp+decide only[go_sem,d3,hqm,hgg,hur,hwk,hcg,hcgl,b1,b2,hwq];rfl;kernel_rfl))
            refine a1j (m-(q+1)) (by omega) ⟨_,_,?_,q+1,.iptr [AV.int .i64 0,AV.str cy,AV.int .i64 1],_,rfl,hqm,rfl,by rw[hRR];exact .c h1 rfl rfl rfl⟩
            (simp+decide only[go_sem,a03,a00,hMs,nMJ,hSI1,nSI,hSJ1,nSJ,gg1,gg2,hyr,hyn,hOl,List.length_map]<;>rfl)<;>rfl
        ·obtain rfl:q=m:=by omega
         have d3:¬(q:Int)<q:=by omega
         have hwi:=wI1 (n:=i) (by omega);cases hsh with
         |a h1 h2 h3 h4=>
          subst h2 h3 h4;simp only[hap1,hap2]
          (repeat first|simp only[ww]|(apply xa;simp+decide only[go_sem,d3,hwi];rfl;kernel_rfl))
          refine a27 (i+1) ?_ (by omega) (by omega);simp only[hlI,hlS,hdf,hMJ0,hSI,hSJ,hGG,hms,h1,a0t,a0u]
          (simp+decide only[go_sem,a03,a00,hMs,nMJ,hSI1,nSI,hSJ1,nSJ,gg1,gg2]<;>rfl)<;>rfl
         |b h1 h2 h3 h4=>
          obtain⟨y,ys,hy⟩:∃y ys,msQ i W OO q=y::ys:=List.exists_cons_of_ne_nil h1;have hyr:=a08 hrf;have hyn:=λπ=>a06 π hrf;rw[hy]at h2 h4 hyr hyn;simp only[List.flatMap_cons,List.map_cons]at hyr hyn;simp only[List.length_cons]at h2;subst h2 h3 h4;simp only[hap1,hap2]
          (repeat first|simp only[ww]|(apply xa;simp+decide only[go_sem,d3,hwi];rfl;kernel_rfl))
          refine a27 (i+1) ?_ (by omega) (by omega);simp only[hlI,hlS,hdf,hMJ0,hSI,hSJ,hGG,hms,hy,a0b,a0c]
          (simp+decide only[go_sem,a03,a00,hMs,nMJ,hSI1,nSI,hSJ1,nSJ,gg1,gg2,hyr,hyn]<;>rfl)<;>rfl
         |c h1 h2 h3 h4=>
          obtain⟨y,ys,hy⟩:∃y ys,msQ i W OO q=y::ys:=List.exists_cons_of_ne_nil h1;have hyr:=a08 hrf;have hyn:=λπ=>a06 π hrf;rw[hy]at h2 h4 hyr hyn;simp only[List.flatMap_cons,List.map_cons]at hyr hyn;simp only[List.length_cons]at h2;subst h2 h3 h4;simp only[hap1,hap2]
          (repeat first|simp only[ww]|(apply xa;simp+decide only[go_sem,d3,hwi];rfl;kernel_rfl))
          refine a27 (i+1) ?_ (by omega) (by omega);simp only[hlI,hlS,hdf,hMJ0,hSI,hSJ,hGG,hms,hy,a0b,a0c]
          (simp+decide only[go_sem,a03,a00,hMs,nMJ,hSI1,nSI,hSJ1,nSJ,gg1,gg2,hyr,hyn]<;>rfl)<;>rfl
    |cons x rs=>
     have hmr:=a08 hmf;have hmn:=λπ=>a06 π hmf;simp only[List.flatMap_cons,List.map_cons]at hmr hmn;simp only[List.length_cons]at hmlen;rw[a0b,a0c]
     (repeat first|simp only[ww]|(apply xa;simp+decide only[go_sem,d1,hlt,hvg,hvc,hrm,List.length_map];rfl;kernel_rfl))
     rw[hzz];refine b2i kp26_6 rfl 5 rfl (σ:=Nat) (λj=>[(16,.ptr 0 0 0),(17,.int .i64 k),(18,.slice 4 0 (rs.length+1) none),(19,.int .i64 i),(20,.ptr 5 0 0),(21,.slice 6 0 k (some k)),(82,.islice ((gdC c ord A).map vcR) (some A.length)),(83,.int .i64 A.length),(84,.int .i64 i),(92,.int .i64 k),(93,.int .i64 j),(1000005,.junk)])
      (λj=>[some (.row 3 [[.func (.func 123) [] [.ptr 1 0 0,.ptr 2 0 0,.iptr [sl c.nc (c.nodes.map Nd.enc),sl c.mc (c.names.map a1h),.nilslice,sl c.oc (c.outs.map a0h)],.iptr [.islice [[.int .u8 1,.int .i64 nd,.int .i64 pin,.int .u8 val,.int .i64 0]] (some 1)],.ptr 3 0 0],MI,SI]]),some (.row 1 [[.bool bb]]),some (.row 1 [[GG]]),some (.row 2 [[LI,LS]]),some (.row 3 (x::rs)),some (.row 3 [[AV.int .i64 0,AV.str cy,AV.int .i64 1]]),some (.row 1 (upT g z k j))]) (λj=>k-j) (λj=>j≤k) 0 ?_ (Nat.zero_le _) ?_
     ·rw[←c73 (f:=g)]
      (simp+decide only[go_sem,a03,a00,hMI,nMI,hSI1,nSI,hLI,nLI,hLS,nLS,gg1,gg2,hmr,hmn,hx1,hx2]<;>rfl)<;>rfl
     ·intro j hj;by_cases hjl:j<k
      ·have d2:(j:Int)<k:=by omega
       have hwj:=wI1 (n:=j) (by omega);obtain⟨v,hv⟩:∃v,a.2[j]?=some v:=⟨_,z9e (by omega)⟩
       have hvl3:=hav v (List.mem_of_getElem? hv);have hcg:cy[j]?=some (a5d 48 49 v):=by rw[←hcyd];unfold cyc;rw[List.getElem?_append_left (by rw[List.length_map];omega),List.getElem?_map,hv];rfl
       have hcgl:=(List.getElem?_eq_some_iff.1 hcg).1;have hvv:=λ(d:Bool) (H:a02)=>c2z (d:=d) H v hvl3;have hset:=b2l (f:=g) (z:=z) hjl;have hat:=c30 (f:=g) (z:=z) hjl;have hln:=a6c (f:=g) (z:=z) (n:=k) (i:=j);have hfj:g j=[.int .u8 (xz v)]:=by rw[hg];show u8R _=_;rw[c02,a76 ha,List.getD_eq_getElem?_getD,List.getElem?_map,hv];rfl
       rw[hfj]at hset
       (repeat first|simp only[ww]|(apply xa;simp+decide only[go_sem,d2,hjl,hcg,hcgl,hvv,hset,hat,hln,hwj,hzl,hzd];rfl;kernel_rfl))
       refine a27 (j+1) ?_ (by omega) (by omega)
       (simp+decide only[go_sem,a03,a00,hMI,nMI,hSI1,nSI,hLI,nLI,hLS,nLS,gg1,gg2,hmr,hmn,hx1,hx2]<;>rfl)<;>rfl
      ·obtain rfl:j=k:=by omega
       have d2:¬(j:Int)<j:=by omega
       rw[hue];have hH2:∀Y:Option AObj,b0e 5 [some (.row 3 [[.func (.func 123) [] [.ptr 1 0 0,.ptr 2 0 0,.iptr [sl c.nc (c.nodes.map Nd.enc),sl c.mc (c.names.map a1h),.nilslice,sl c.oc (c.outs.map a0h)],.iptr [.islice [[.int .u8 1,.int .i64 nd,.int .i64 pin,.int .u8 val,.int .i64 0]] (some 1)],.ptr 3 0 0],MI,SI]]),some (.row 1 [[.bool bb]]),some (.row 1 [[GG]]),some (.row 2 [[LI,LS]]),some (.row 3 (x::rs)),some (.row 3 [[AV.int .i64 0,AV.str cy,AV.int .i64 1]]),Y]=[some (.row 3 [[.func (.func 123) [] [.ptr 1 0 0,.ptr 2 0 0,.iptr [sl c.nc (c.nodes.map Nd.enc),sl c.mc (c.names.map a1h),.nilslice,sl c.oc (c.outs.map a0h)],.iptr [.islice [[.int .u8 1,.int .i64 nd,.int .i64 pin,.int .u8 val,.int .i64 0]] (some 1)],.ptr 3 0 0],MI,SI]]),some (.row 1 [[.bool bb]]),some (.row 1 [[GG]]),some (.row 2 [[LI,LS]]),some (.row 3 (x::rs))]:=λY=>by unfold b0e;simp+decide only[go_sem,List.take_succ_cons,List.take_zero,List.map_cons,List.map_nil,Option.map_some,a9e,a0j _ _ _ _ hMI,a0j _ _ _ _ hSI1,a0j _ _ _ _ hLI,a0j _ _ _ _ hLS,a0j _ _ _ _ gg1,a4g hV0,a4g hmf]
       (repeat first|simp only[ww]|(apply xa;simp+decide only[go_sem,d2];rfl;kernel_rfl))
       rw[d05];simp only[List.length_nil,Nat.zero_add,hH2];simp+decide only[go_sem,hfr,htk,hul];rw[e3,hMJ0];have hcc1:=λ(d:Bool)=>hcyc d [some (.row 3 (x::rs))]
       (repeat first|simp only[ww]|(apply xa;simp+decide only[go_sem,hcc1,List.length_map,hOl];rfl;kernel_rfl))
       refine a4j kp26_8 (λN F Hx=>∃(q:Nat) (TV OV:AV),N=m-q∧q≤m∧F=[(16,.ptr 0 0 0),(17,.int .i64 j),(18,OV),(19,.int .i64 i),(20,TV),(82,.islice ((gdC c ord A).map vcR) (some A.length)),(83,.int .i64 A.length),(84,.int .i64 i),(107,.islice (OO.map u8R) (some m)),(108,.int .i64 m),(109,.int .i64 q)]∧Shp8 [AV.int .i64 0,AV.str cy,AV.int .i64 1] [some (.row 3 [[.func (.func 123) [] [.ptr 1 0 0,.ptr 2 0 0,.iptr [sl c.nc (c.nodes.map Nd.enc),sl c.mc (c.names.map a1h),.nilslice,sl c.oc (c.outs.map a0h)],.iptr [.islice [[.int .u8 1,.int .i64 nd,.int .i64 pin,.int .u8 val,.int .i64 0]] (some 1)],.ptr 3 0 0],MJ,SJ]]),some (.row 1 [[.bool false]]),some (.row 1 [[GG]]),some (.row 2 [[MJ,SI]])] ((x::rs)++msQ i W OO q) TV OV Hx) m ?_ ?_
       ·refine⟨_,[some (.row 3 [[.func (.func 123) [] [.ptr 1 0 0,.ptr 2 0 0,.iptr [sl c.nc (c.nodes.map Nd.enc),sl c.mc (c.names.map a1h),.nilslice,sl c.oc (c.outs.map a0h)],.iptr [.islice [[.int .u8 1,.int .i64 nd,.int .i64 pin,.int .u8 val,.int .i64 0]] (some 1)],.ptr 3 0 0],MJ,SJ]]),some (.row 1 [[.bool false]]),some (.row 1 [[GG]]),some (.row 2 [[MJ,SI]]),some (.row 3 (x::rs))],?_,0,.iptr [AV.int .i64 0,AV.str cy,AV.int .i64 1],.slice 4 0 (rs.length+1) none,rfl,Nat.zero_le _,rfl,?_⟩
        rotate_left
        ·rw[d35];exact .c (by simp) (by simp) rfl (by simp)
        ·(simp+decide only[go_sem,a03,a00,hMs,nMJ,hSI1,nSI,hSJ1,nSJ,gg1,gg2,hmr,hmn,hOl,List.length_map]<;>rfl)<;>rfl
       ·rintro N F Hx ⟨q,TV,OV,rfl,hq,rfl,hsh⟩
        have hrf:FlatR ((x::rs)++msQ i W OO q):=hmf.append (b2a i W OO q);have hrl:((x::rs)++msQ i W OO q).length≤1000:=by have:=b38 i W OO q;have h8:i*m≤7*4:=Nat.mul_le_mul (by omega) (by omega);rw[List.length_append];simp only[List.length_cons,List.length_nil];omega
        have hqs:=c1x i W OO q;by_cases hqm:q<m
        ·have d3:(q:Int)<m:=by omega
         have hwq:=wI1 (n:=q) (by omega);have hwk:IntKind.i64.wrap ((j:Int)+q)=((j+q:Nat):Int):=by rw[w64 (by omega) (by omega)];omega
         obtain⟨gg,hgg⟩:∃gg,OO[q]?=some gg:=⟨_,z9e (by omega)⟩
         obtain⟨w,hw⟩:∃w,W[q]?=some w:=⟨_,z9e (by omega)⟩
         have hw3:=hWo w (List.mem_of_getElem? hw);rw[List.getD_eq_getElem?_getD,List.getD_eq_getElem?_getD,hgg,hw]at hqs;simp only[Option.getD_some]at hqs;have hcg:cy[j+q]?=some (a5d 76 72 w):=by rw[←hcyd];unfold cyc;rw[List.getElem?_append_right (by rw[List.length_map];omega),List.length_map,hak,Nat.add_sub_cancel_left,List.getElem?_map,hw];rfl
         have hcgl:=(List.getElem?_eq_some_iff.1 hcg).1;have hur:u8R gg=[.int .u8 gg]:=rfl;have hcs:=c3j (w:=w) (g:=gg) hw3;generalize a5d 76 72 w=cb at hcg hcs;rcases hcs with ⟨hm,hb⟩|⟨hm,hb⟩
         ·rw[hm,if_pos rfl]at hqs;have hqa:(x::rs)++msQ i W OO (q+1)=((x::rs)++msQ i W OO q)++[b0q i q gg]:=by rw[hqs,List.append_assoc]
          cases hsh with
          |a h1 h2 h3 h4=>
           subst h2 h3 h4;simp only[hap1,hap2];rcases hb with ⟨b1,b2⟩|⟨b1,b2⟩
           all_goals
            subst b2
            (repeat first|simp only[ww]|(apply xa;simp+decide only[go_sem,d3,hqm,hgg,hur,hwk,hcg,hcgl,b1,hwq];rfl;kernel_rfl))
            refine a1j (m-(q+1)) (by omega) ⟨_,_,?_,q+1,.ptr 5 0 0,.slice 4 0 1 none,rfl,hqm,rfl,by rw[hqa,h1];exact .b (by simp) rfl rfl rfl⟩
            (simp+decide only[go_sem,a03,a00,hMs,nMJ,hSI1,nSI,hSJ1,nSJ,gg1,gg2,hOl,List.length_map,b0q]<;>rfl)<;>rfl
          |b h1 h2 h3 h4=>
           obtain⟨y,ys,hy⟩:∃y ys,(x::rs)++msQ i W OO q=y::ys:=List.exists_cons_of_ne_nil h1;rw[hy]at h2 h4 hqa hrf hrl;have hy5:a0e y=[]:=hrf y (List.mem_cons_self ..);have hyf:FlatR ys:=λr hr=>hrf r (List.mem_cons_of_mem _ hr);have hyr:=a08 hyf;have hyn:=λπ=>a06 π hyf;have hy6:∀π,y.map (ren π)=y:=λπ=>by have h:=a06 π (FlatR.cons hy5 FlatR.nil);simpa using h
           simp only[List.length_cons]at h2 hrl;have hyl:ys.length+1+1≤1000000000:=by omega
           subst h2 h3 h4;simp only[hap1,hap2];rcases hb with ⟨b1,b2⟩|⟨b1,b2⟩
           all_goals
            subst b2
            (repeat first|simp only[ww]|(apply xa;simp+decide only[go_sem,d3,hqm,hgg,hur,hwk,hcg,hcgl,b1,hwq,hyl,List.length_cons];rfl;kernel_rfl))
            refine a1j (m-(q+1)) (by omega) ⟨_,_,?_,q+1,.ptr 5 0 0,.slice 4 0 (ys.length+1+1) none,rfl,hqm,rfl,by rw[hqa];exact .b (by simp) (by simp) rfl rfl⟩
            (simp+decide only[go_sem,a03,a00,hMs,nMJ,hSI1,nSI,hSJ1,nSJ,gg1,gg2,hyr,hyn,hy5,hy6,hOl,List.cons_append,List.map_append,List.map_cons,List.map_nil,List.flatMap_append,List.flatMap_cons,List.flatMap_nil,List.length_map,b0q]<;>rfl)<;>rfl
          |c h1 h2 h3 h4=>
           obtain⟨y,ys,hy⟩:∃y ys,(x::rs)++msQ i W OO q=y::ys:=List.exists_cons_of_ne_nil h1;rw[hy]at h2 h4 hqa hrf hrl;have hy5:a0e y=[]:=hrf y (List.mem_cons_self ..);have hyf:FlatR ys:=λr hr=>hrf r (List.mem_cons_of_mem _ hr);have hyr:=a08 hyf;have hyn:=λπ=>a06 π hyf;have hy6:∀π,y.map (ren π)=y:=λπ=>by have h:=a06 π (FlatR.cons hy5 FlatR.nil);simpa using h
           simp only[List.length_cons]at h2 hrl;have hyl:ys.length+1+1≤1000000000:=by omega
           subst h2 h3 h4;simp only[hap1,hap2];rcases hb with ⟨b1,b2⟩|⟨b1,b2⟩
           all_goals
            subst b2
            (repeat first|simp only[ww]|(apply xa;simp+decide only[go_sem,d3,hqm,hgg,hur,hwk,hcg,hcgl,b1,hwq,hyl,List.length_cons];rfl;kernel_rfl))
            refine a1j (m-(q+1)) (by omega) ⟨_,_,?_,q+1,.iptr [AV.int .i64 0,AV.str cy,AV.int .i64 1],.slice 4 0 (ys.length+1+1) none,rfl,hqm,rfl,by rw[hqa];exact .c (by simp) (by simp) rfl rfl⟩
            (simp+decide only[go_sem,a03,a00,hMs,nMJ,hSI1,nSI,hSJ1,nSJ,gg1,gg2,hyr,hyn,hy5,hy6,hOl,List.cons_append,List.map_append,List.map_cons,List.map_nil,List.flatMap_append,List.flatMap_cons,List.flatMap_nil,List.length_map,b0q]<;>rfl)<;>rfl
         ·rw[hm,if_neg (by decide),List.append_nil]at hqs;rw[←hqs]at hsh;cases hsh with
          |a h1 h2 h3 h4=>
           subst h2 h3 h4;simp only[hap1,hap2];rcases hb with ⟨b1,b2⟩|⟨b1,b2⟩|⟨b1,b2⟩
           all_goals
            (repeat first|simp only[ww]|(apply xa;simp+decide only[go_sem,d3,hqm,hgg,hur,hwk,hcg,hcgl,b1,b2,hwq];rfl;kernel_rfl))
            refine a1j (m-(q+1)) (by omega) ⟨_,_,?_,q+1,.ptr 4 0 0,.nilslice,rfl,hqm,rfl,.a h1 rfl rfl rfl⟩
            (simp+decide only[go_sem,a03,a00,hMs,nMJ,hSI1,nSI,hSJ1,nSJ,gg1,gg2,hOl,List.length_map]<;>rfl)<;>rfl
          |b h1 h2 h3 h4=>
           rw[←hqs]at hrf;obtain⟨RR,hRR⟩:∃RR,(x::rs)++msQ i W OO (q+1)=RR:=⟨_,rfl⟩
           rw[hRR]at hrf h1 h2 h4;have hyr:=a08 hrf;have hyn:=λπ=>a06 π hrf;subst h2 h3 h4;simp only[hap1,hap2];rcases hb with ⟨b1,b2⟩|⟨b1,b2⟩|⟨b1,b2⟩
           all_goals
            (repeat first|simp only[ww]|(apply xa;simp+decide only[go_sem,d3,hqm,hgg,hur,hwk,hcg,hcgl,b1,b2,hwq];rfl;kernel_rfl))
            refine a1j (m-(q+1)) (by omega) ⟨_,_,?_,q+1,.ptr 5 0 0,_,rfl,hqm,rfl,by rw[hRR];exact .b h1 rfl rfl rfl⟩
            (simp+decide only[go_sem,a03,a00,hMs,nMJ,hSI1,nSI,hSJ1,nSJ,gg1,gg2,hyr,hyn,hOl,List.length_map]<;>rfl)<;>rfl
          |c h1 h2 h3 h4=>
           rw[←hqs]at hrf;obtain⟨RR,hRR⟩:∃RR,(x::rs)++msQ i W OO (q+1)=RR:=⟨_,rfl⟩
           rw[hRR]at hrf h1 h2 h4;have hyr:=a08 hrf;have hyn:=λπ=>a06 π hrf;subst h2 h3 h4;simp only[hap1,hap2];rcases hb with ⟨b1,b2⟩|⟨b1,b2⟩|⟨b1,b2⟩
           all_goals
            (repeat first|simp only[ww]|(apply xa;simp+decide only[go_sem,d3,hqm,hgg,hur,hwk,hcg,hcgl,b1,b2,hwq];rfl;kernel_rfl))
            refine a1j (m-(q+1)) (by omega) ⟨_,_,?_,q+1,.iptr [AV.int .i64 0,AV.str cy,AV.int .i64 1],_,rfl,hqm,rfl,by rw[hRR];exact .c h1 rfl rfl rfl⟩
            (simp+decide only[go_sem,a03,a00,hMs,nMJ,hSI1,nSI,hSJ1,nSJ,gg1,gg2,hyr,hyn,hOl,List.length_map]<;>rfl)<;>rfl
        ·obtain rfl:q=m:=by omega
         have d3:¬(q:Int)<q:=by omega
         have hwi:=wI1 (n:=i) (by omega);cases hsh with
         |a h1 h2 h3 h4=>
          subst h2 h3 h4;simp only[hap1,hap2]
          (repeat first|simp only[ww]|(apply xa;simp+decide only[go_sem,d3,hwi];rfl;kernel_rfl))
          refine a27 (i+1) ?_ (by omega) (by omega);simp only[hlI,hlS,hdf,hMJ0,hSI,hSJ,hGG,hms,h1,a0t,a0u]
          (simp+decide only[go_sem,a03,a00,hMs,nMJ,hSI1,nSI,hSJ1,nSJ,gg1,gg2]<;>rfl)<;>rfl
         |b h1 h2 h3 h4=>
          obtain⟨y,ys,hy⟩:∃y ys,(x::rs)++msQ i W OO q=y::ys:=List.exists_cons_of_ne_nil h1;have hyr:=a08 hrf;have hyn:=λπ=>a06 π hrf;rw[hy]at h2 h4 hyr hyn;simp only[List.flatMap_cons,List.map_cons]at hyr hyn;simp only[List.length_cons]at h2;subst h2 h3 h4;simp only[hap1,hap2]
          (repeat first|simp only[ww]|(apply xa;simp+decide only[go_sem,d3,hwi];rfl;kernel_rfl))
          refine a27 (i+1) ?_ (by omega) (by omega);simp only[hlI,hlS,hdf,hMJ0,hSI,hSJ,hGG,hms,hy,a0b,a0c]
          (simp+decide only[go_sem,a03,a00,hMs,nMJ,hSI1,nSI,hSJ1,nSJ,gg1,gg2,hyr,hyn]<;>rfl)<;>rfl
         |c h1 h2 h3 h4=>
          obtain⟨y,ys,hy⟩:∃y ys,(x::rs)++msQ i W OO q=y::ys:=List.exists_cons_of_ne_nil h1;have hyr:=a08 hrf;have hyn:=λπ=>a06 π hrf;rw[hy]at h2 h4 hyr hyn;simp only[List.flatMap_cons,List.map_cons]at hyr hyn;simp only[List.length_cons]at h2;subst h2 h3 h4;simp only[hap1,hap2]
          (repeat first|simp only[ww]|(apply xa;simp+decide only[go_sem,d3,hwi];rfl;kernel_rfl))
          refine a27 (i+1) ?_ (by omega) (by omega);simp only[hlI,hlS,hdf,hMJ0,hSI,hSJ,hGG,hms,hy,a0b,a0c]
          (simp+decide only[go_sem,a03,a00,hMs,nMJ,hSI1,nSI,hSJ1,nSJ,gg1,gg2,hyr,hyn]<;>rfl)<;>rfl
   ·obtain rfl:i=A.length:=by omega
    have d1:¬(A.length:Int)<A.length:=by omega
    have hcn:=λ(d:Bool) (H:a02)=>c1y (d:=d) H;have hmf:=hMf A.length;generalize msI (ouA c ord A) O m A.length=rows at hmf⊢;cases rows with
    |nil=>
     rw[a0t,a0u]
     (repeat first|simp only[ww]|(apply xa;simp+decide only[go_sem,d1,hcn];rfl;kernel_rfl))
     refine a2v (vs:=[.nilslice,.int .i64 0]) (r:=(.tuple [.nilslice,.int .i64 0],[some (.row 3 [[.func (.func 123) [] [.ptr 1 0 0,.ptr 2 0 0,.iptr [sl c.nc (c.nodes.map Nd.enc),sl c.mc (c.names.map a1h),.nilslice,sl c.oc (c.outs.map a0h)],.iptr [.islice [[.int .u8 1,.int .i64 nd,.int .i64 pin,.int .u8 val,.int .i64 0]] (some 1)],.ptr 3 0 0],gI c A k A.length,sl (R A.length) ((S A.length).map u8R)]]),some (.row 1 [[.bool (decide (A.length=0))]]),some (.row 1 [[fn1 c]]),some (.row 2 [[lI c A k A.length,lS S R A.length]])])) (by simp+decide only[go_sem]<;>rfl) ?_ (by first|exact⟨_,rfl⟩|exact⟨_,.inl ⟨rfl,rfl⟩⟩|exact⟨_,.inl rfl⟩|exact⟨_,.inl ⟨trivial,rfl⟩⟩);rfl
    |cons x rs=>
     have hcc:=λ(d:Bool) (X Y Z W:Option AObj)=>c5g (d:=d) (H:=[X,Y,Z,W,some (.row 3 (x::rs))]) (b:=4) (n:=rs.length+1) hmf rfl;rw[a0b,a0c]
     (repeat first|simp only[ww]|(apply xa;simp+decide only[go_sem,d1,hcc];rfl;kernel_rfl))
     refine a2v (vs:=[.slice 4 0 (rs.length+1) (some (rs.length+1)),.int .i64 0]) (r:=(.tuple [.slice 4 0 (rs.length+1) (some (rs.length+1)),.int .i64 0],[some (.row 3 [[.func (.func 123) [] [.ptr 1 0 0,.ptr 2 0 0,.iptr [sl c.nc (c.nodes.map Nd.enc),sl c.mc (c.names.map a1h),.nilslice,sl c.oc (c.outs.map a0h)],.iptr [.islice [[.int .u8 1,.int .i64 nd,.int .i64 pin,.int .u8 val,.int .i64 0]] (some 1)],.ptr 3 0 0],gI c A k A.length,sl (R A.length) ((S A.length).map u8R)]]),some (.row 1 [[.bool (decide (A.length=0))]]),some (.row 1 [[fn1 c]]),some (.row 2 [[lI c A k A.length,lS S R A.length]]),some (.row 3 (x::rs))])) (by simp+decide only[go_sem]<;>rfl) ?_ (by first|exact⟨_,rfl,rfl⟩|exact⟨_,.inr ⟨by simp,rfl,rfl⟩⟩|exact⟨_,rfl,by rfl⟩);rfl
def e7k:Nat→Code→Code
 |0,c=>c
 |n+1,.seq _ b=>e7k n b
 |_+1,c=>c
theorem c7q(hlv:∀H,a0a L.env false (sem L.env Mf) (.func (.func 12) [] []) [] H=some (.bool true,H,[]))(c:Cir)(hc:c.wf){k m:Nat}(ht:Tio c k m)(ord:List Nat)(hord:OrdOf c ord)(nd:Nat)(pin:Int)(val:Nat)(hf:FltOk c.nodes ⟨0,nd,pin,val,0⟩)
 (A:List (Rep×List Nat))(hAl2:A.length=2)(hA2:∀a∈A,a.2.length=k∧∀v∈a.2,v≤2)(t u1 u2 u3 u4 u5:AV) :
 Wp (cx L.env Mf 0 Tryz.f5.ntmps 5 0) (e7k 8 (Tryz.f5.body.getD .skip)) [(47,u1),(46,u2),(45,u3),(44,u4),(7,.iptr [sl c.nc (c.nodes.map Nd.enc),sl c.mc (c.names.map a1h),.nilslice,sl c.oc (c.outs.map a0h)]),(8,.iptr [.int .u8 1,.int .i64 nd,.int .i64 pin,.int .u8 val,.int .i64 0]),(9,.islice (A.map vlR) none),(10,t),(1000000,u5)] [] (fq L.env 5 0 Tryz.f5.results.toList (.bool true,[])):=by
 have hkl:(kinds c.nodes 0).length=k:=by rw[ht.ins];simp
 have hA3:∀a∈A,a.2.length=k∧∀v∈a.2,v≤3:=λa ha=>⟨(hA2 a ha).1,λv hv=>by have:=(hA2 a ha).2 v hv;omega⟩
 have hAl:A.length≤8:=by omega
 have hvo:=e22 c ht ord A hA3;have hstp:=f3q c hc ht ord hord A (λa ha=>(hA3 a ha).1) nd pin val hf;have hgd:=λ(d:Bool) (H:a02)=>c9y (d:=d) H c hc ht ord hord (some none) A (by omega) hA3;have hruns:=d23 c hc ht ord hord A hAl hA3 hvo nd pin val hf _ _ _ hstp rfl;have hrows:=c7u c ord A (λa ha=>(hA2 a ha).2) nd pin val m;rw[←hAl2]at hrows;have hO1:=e7d c ord A (λa ha=>(hA2 a ha).2) nd pin val;rw[hrows,hO1]at hruns;have hrun:=λ(d:Bool) (X0 X1 X2 X3 X4 X5:Option AObj)=>c4o (b2a _ _ _ _) (by rw[List.all_eq_true];exact d8c _ _ _ _) (a5s _ _) hruns (d:=d) [X0,X1,X2,X3,X4,X5,some (.row 5 [[.int .u8 1,.int .i64 nd,.int .i64 pin,.int .u8 val,.int .i64 0]])] (.slice 6 0 1 (some 1)) (by simp+decide only[go_sem]<;>rfl);obtain⟨a0,a1,hAe⟩:∃a0 a1,A=[a0,a1]:=by
  match A,hAl2 with
  | [a0,a1],_=>exact⟨a0,a1,rfl⟩
 have k0:=hA3 a0 (by rw[hAe];simp);have k1:=hA3 a1 (by rw[hAe];simp);have i0:inA A 0=a0.2:=by rw[hAe];rfl
 have i1:inA A 1=a1.2:=by rw[hAe];rfl
 have hP0:PatOk c.nodes ⟨a0.1,a0.2,some (some (kinds c.nodes 14).length),stA c ord A 0⟩:=⟨by rw[hkl];exact k0.1,c1c c ord A 0,k0.2,λv hv=>by have:=c33 c ord A 0 v hv;omega⟩
 have hP1:PatOk c.nodes ⟨a1.1,a1.2,clR (stA c ord A 1),stA c ord A 1⟩:=⟨by rw[hkl];exact k1.1,c1c c ord A 1,k1.2,λv hv=>by have:=c33 c ord A 1 v hv;omega⟩
 have hO:c.outs≠[]:=by intro e;have:=ht.out;have:=ht.m1;rw[e]at *;simp at *;omega
 have hbl:∀(d:Bool) (H:a02),a0a L.env d (sem L.env Mf) (.func (.func 22) [] []) [.agg [sl c.nc (c.nodes.map Nd.enc),sl c.mc (c.names.map a1h),.nilslice,sl c.oc (c.outs.map a0h)]] H=some (.agg [.islice ((List.replicate (kinds c.nodes 0).length 2).map u8R) (some (kinds c.nodes 0).length),.islice ((List.replicate (kinds c.nodes 14).length 2).map u8R) (some (kinds c.nodes 14).length)],H,[]):=λd H=>a91 H c hc;have hs0:=λ(d:Bool) (H:a02)=>a9p (d:=d) H c hc hO _ hP0 ord hord;have hs1:=λ(d:Bool) (H:a02)=>a9p (d:=d) H c hc hO _ hP1 ord hord;have hpr:=λ(d:Bool) (H:a02)=>c0s (d:=d) H c hc hO _ hP0 _ hP1 nd pin val hf ord hord;have e1:a1q c.nodes (gN c ord a0.2 (stA c ord A 0))=stA c ord A 1:=by rw[←i0];rfl
 have e2:a14 c.outs (gN c ord a1.2 (stA c ord A 1))=ouA c ord A 1:=by rw[←i1];rfl
 have e3:pdO c ord nd pin val ⟨none,inA A 0,none,stA c ord A 0⟩ ⟨none,inA A 1,none,stA c ord A 1⟩=pdO c ord nd pin val ⟨a0.1,a0.2,some (some (kinds c.nodes 14).length),stA c ord A 0⟩ ⟨a1.1,a1.2,clR (stA c ord A 1),stA c ord A 1⟩:=by rw[i0,i1];rfl
 rw[e3]at hrun;have hWl:(ouA c ord A 1).length=m:=by unfold ouA;rw[a5u,ht.out]
 have hDl:(pdO c ord nd pin val ⟨a0.1,a0.2,some (some (kinds c.nodes 14).length),stA c ord A 0⟩ ⟨a1.1,a1.2,clR (stA c ord A 1),stA c ord A 1⟩).length=m:=by unfold pdO;rw[a5u,ht.out]
 dsimp only at hs0 hs1;unfold a9r at hs0 hs1 hpr;rw[e1,a86 (stA c ord A 1)]at hs0;rw[e2]at hs1;have es:stA c ord A 0=List.replicate (kinds c.nodes 14).length 2:=rfl;generalize pdO c ord nd pin val ⟨a0.1,a0.2,some (some (kinds c.nodes 14).length),stA c ord A 0⟩ ⟨a1.1,a1.2,clR (stA c ord A 1),stA c ord A 1⟩=D at hrun hpr hDl;generalize pdN c ord nd pin val ⟨a0.1,a0.2,some (some (kinds c.nodes 14).length),stA c ord A 0⟩ ⟨a1.1,a1.2,clR (stA c ord A 1),stA c ord A 1⟩=D2 at hpr;generalize a14 c.outs (gN c ord a0.2 (stA c ord A 0))=O0 at hs0;generalize gN c ord a0.2 (stA c ord A 0)=N0 at hs0;generalize a1q c.nodes (gN c ord a1.2 (stA c ord A 1))=S2 at hs1;generalize gN c ord a1.2 (stA c ord A 1)=N1 at hs1;simp only[Cir.enc,Pat.enc,a4n,es]at hs0 hs1 hpr hgd hrun;simp only[List.map_replicate,u8R]at hbl hs0 hpr;rw[b8d hWl ht.m1]at hs1;rw[b8d hDl ht.m1]at hpr;have z1:=a1d O0;have z2:=a1d S2;have z3:=a1d D2;have y2:=a18 S2;have y3:=a18 D2;have y2n:=λπ=>a0d π _ y2;have y3n:=λπ=>a0d π _ y3;generalize a2p O0=O0V at hs0 z1;generalize a2p S2=S2V at hs1 z2 y2 y2n;generalize a2p D2=D2V at hpr z3 y3 y3n;generalize stA c ord A 1=S1 at hs0 hs1 hpr;have hsl:=a46 k m;obtain⟨V,hV⟩:∃V,b1t (gdC c ord A)=V:=⟨_,rfl⟩
 have hVs:V.storable=true:=by rw[←hV];cases gdC c ord A<;>rfl
 have hVc:V.cells=[V]:=by rw[←hV];cases gdC c ord A<;>rfl
 have hVj:V.isJunk=false:=by rw[←hV];cases gdC c ord A<;>rfl
 have hpg:a96 (sgs k m) (gdC c ord A)=[.islice ((sgs k m).map Sgn.row) (some (k+m)),.islice [tmR] (some 1),V]:=by unfold a96;rw[hsl,hV]
 rw[hpg]at hgd hrun;have g0:A[0]?=some a0:=by rw[hAe];rfl
 have g1:A[1]?=some a1:=by rw[hAe];rfl
 have l0:0<A.length:=by omega
 have l1:1<A.length:=by omega
 have v0:vlR a0=[sl a0.1 (a0.2.map u8R)]:=rfl;have v1:vlR a1=[sl a1.1 (a1.2.map u8R)]:=rfl;have w0:Ax.rowAt (A.map vlR) 0=some [sl a0.1 (a0.2.map u8R)]:=by rw[hAe];rfl
 have w1:Ax.rowAt (A.map vlR) 1=some [sl a1.1 (a1.2.map u8R)]:=by rw[hAe];rfl
 simp only[Tryz.f5,gS,e7k]
 (repeat first|simp only[ww]|(apply xa;simp+decide only[go_sem,hbl,hs0,hs1,hpr,hgd,hrun,w0,w1,z1,z2,z3,hVs,hVc,hVj,hWl,hDl,List.length_map];rfl;kernel_rfl))
 have hWo:∀w∈ouA c ord A 1,w≤3:=c3g c ord A (i:=1) (λv hv=>by rw[i1]at hv;exact k1.2 v hv);generalize ouA c ord A 1=W at hWl hWo⊢;have hrr:∀x∈msQ 1 W D m,∃b g:Nat,x=b0q 1 b g:=λx hx=>by
  simp only[msQ,List.mem_flatMap]at hx;obtain⟨q,_,hx⟩:=hx;split at hx
  ·rw[List.mem_singleton]at hx;exact⟨_,_,hx⟩
  ·cases hx
 have hml:=b38 1 W D m;have hm4:=ht.m4;refine a0p (σ:=Nat) kp5_4 (λq=>[(17,.ptr 0 0 0),(20,.ptr 1 0 0),(25,b9n (msQ 1 W D m)),(27,.int .i64 (msQ 1 W D q).length),(28,.int .i64 q)])
  (λ_=>[some (.row 2 [[.islice (W.map u8R) (some m),S2V]]),some (.row 2 [[.islice (D.map u8R) (some m),D2V]])]) (λq=>m-q) (λq=>q≤m) 0 ?_ (Nat.zero_le _) ?_
 ·have hmr:=b5y (msQ 1 W D m);have hmn:=λπ=>a0d π _ hmr;rw[d35]
  (simp+decide only[go_sem,a03,a00,y2,y3,y2n,y3n,hmr,hmn,List.length_nil]<;>rfl)<;>rfl
 ·intro q hq;have hmr:=b5y (msQ 1 W D m);have hmn:=λπ=>a0d π _ hmr;by_cases hlt:q<m
  ·have c1:(q:Int)<m:=by omega
   have hwq:=wI1 (n:=q) (by omega);obtain⟨w,hw⟩:∃w,W[q]?=some w:=⟨_,z9e (by omega)⟩
   obtain⟨g,hg⟩:∃g,D[q]?=some g:=⟨_,z9e (by omega)⟩
   have hwD:W.getD q 0=w:=by rw[List.getD_eq_getElem?_getD,hw];rfl
   have hgD:D.getD q 0=g:=by rw[List.getD_eq_getElem?_getD,hg];rfl
   have hur:∀v,u8R v=[.int .u8 v]:=λ_=>rfl;have hst:=c1x 1 W D q;have hat:=e3d (i:=1) (W:=W) (O:=D) hlt;rw[hwD,hgD]at hst hat;have hlq:=b38 1 W D q;rcases d8e (w:=w) (g:=g)with ⟨hm,t1,t2,t3⟩|⟨hm,ht3⟩
   ·have hat:=hat hm;rw[hm,if_pos rfl]at hst;have hla:=(List.getElem?_eq_some_iff.1 hat).1;have hwa:=wI1 (n:=(msQ 1 W D q).length) (by omega);obtain⟨y,ys,hy⟩:∃y ys,msQ 1 W D m=y::ys:=List.exists_cons_of_ne_nil (by intro e;rw[e]at hla;simp at hla);have hsl2:(msQ 1 W D (q+1)).length=(msQ 1 W D q).length+1:=by rw[hst];simp
    have hmr2:b0q 1 q g=[.int .i64 1,.int .i64 q,.int .u8 g]:=rfl;rw[hy]at hat hla⊢;simp only[b9n,List.length_cons]at hla⊢;rw[hmr2]at hat;have c2:¬(((ys.length+1:Nat):Int)≤((msQ 1 W D q).length:Int)):=by omega
    (repeat first|simp only[ww]|(apply xa;simp+decide only[go_sem,c1,c2,hlt,hw,hg,hur,t1,t2,t3,hWl,hDl,hat,hla,hwq,hwa,List.length_map,List.length_cons,beq_self_eq_true,bne_self_eq_false,Bool.and_self,Bool.not_true];rfl;kernel_rfl))
    refine a27 (q+1) ?_ (by omega) (by omega);rw[hsl2];have hyr:refs (AV.islice (y::ys) (some (ys.length+1)))=[]:=rfl
    (simp+decide only[go_sem,a03,a00,y2,y3,y2n,y3n]<;>rfl)<;>rfl
   ·rw[hm,if_neg (by decide),List.append_nil]at hst;obtain⟨MV,hMV⟩:∃MV,b9n (msQ 1 W D m)=MV:=⟨_,rfl⟩
    rw[hMV]at hmr hmn⊢;rcases ht3 with t1|⟨t1,t2⟩|⟨t1,t2,t3⟩
    ·(repeat first|simp only[ww]|(apply xa;simp+decide only[go_sem,c1,hlt,hw,hg,hur,t1,hWl,hDl,hwq,List.length_map];rfl;kernel_rfl))
     refine a27 (q+1) ?_ (by omega) (by omega);rw[hst]
     (simp+decide only[go_sem,a03,a00,y2,y3,y2n,y3n,hmr,hmn]<;>rfl)<;>rfl
    ·(repeat first|simp only[ww]|(apply xa;simp+decide only[go_sem,c1,hlt,hw,hg,hur,t1,t2,hWl,hDl,hwq,List.length_map];rfl;kernel_rfl))
     refine a27 (q+1) ?_ (by omega) (by omega);rw[hst]
     (simp+decide only[go_sem,a03,a00,y2,y3,y2n,y3n,hmr,hmn]<;>rfl)<;>rfl
    ·(repeat first|simp only[ww]|(apply xa;simp+decide only[go_sem,c1,hlt,hw,hg,hur,t1,t2,t3,hWl,hDl,hwq,List.length_map];rfl;kernel_rfl))
     refine a27 (q+1) ?_ (by omega) (by omega);rw[hst]
     (simp+decide only[go_sem,a03,a00,y2,y3,y2n,y3n,hmr,hmn]<;>rfl)<;>rfl
  ·obtain rfl:q=m:=by omega
   have c1:¬(q:Int)<q:=by omega
   cases hrw:msQ 1 W D q with
   |nil=>
    simp only[b9n,List.length_nil]
    (repeat first|simp only[ww]|(apply xa;simp+decide only[go_sem,c1,hWl,hDl,hlv,List.length_map,beq_self_eq_true];rfl;kernel_rfl))
    refine a7k (vs:=[.bool true]) (by simp+decide only[go_sem]) ?_;simp+decide only[go_sem,a26]<;>rfl
   |cons y ys=>
    simp only[b9n,List.length_cons]
    (repeat first|simp only[ww]|(apply xa;simp+decide only[go_sem,c1,hWl,hDl,hlv,List.length_map,List.length_cons,beq_self_eq_true];rfl;kernel_rfl))
    refine a7k (vs:=[.bool true]) (by simp+decide only[go_sem]) ?_;simp+decide only[go_sem,a26]<;>rfl
theorem d0b(c:Cir)(h:c.wf)(f:FX)(hf:f.ok):∃(md:Nat) (nd:Nat) (pin:Int) (val ot:Nat),FltOk c.nodes ⟨0,nd,pin,val,0⟩∧∀(d:Bool) (H:a02),a0a L.env d (sem L.env Mf) (.func (.func 20) [] []) [.agg f.enc,.agg c.enc] H=some (.agg (Flt.enc ⟨md,nd,pin,val,ot⟩),H,[]):=by
 by_cases hm:f.model%4=1
 ·obtain⟨nd,pin,val,h0,h1⟩:=d0a c h f hf hm;exact⟨1,nd,pin,val,0,h0,h1⟩
 ·obtain⟨g,hg,h1⟩:=d49 c h f hf hm;exact⟨g.model,g.node,g.pin,g.value,g.other,d7h hg,h1⟩
theorem lawSlow_ok(hlv:∀H,a0a L.env false (sem L.env Mf) (.func (.func 12) [] []) [] H=some (.bool true,H,[]))(x:CX)(hx:x.ok)(p0 p1:Pat)(hp0:PxOk p0)(hp1:PxOk p1)(y:FX)(hy:y.ok) :
 sem L.env Mf 5 [.agg x.enc,.agg (p0.enc++p1.enc),.agg y.enc] []=some (.bool true,[]):=by
 have hlo:=λ(d:Bool) (H:a02)=>c5i (d:=d) H x hx;have ht:=e27 x;have hc:(a8s x).cir.wf:=CX.wf _;obtain⟨ord,hord⟩:=e2z _ hc;have hk1:=ht.ins;generalize(a8s x).cir=c at hlo ht hc hord hk1;generalize(a8s x).k=k at ht hk1;generalize(a8s x).outN.length=m at ht;have hkl:(kinds c.nodes 0).length=k:=by rw[hk1];simp
 have hkn:kinds c.nodes 0≠[]:=by intro e;rw[e]at hkl;have:=ht.k1;simp at hkl;omega
 obtain⟨md,nd,pin,val,ot,hf,hfo⟩:=d0b c hc y hy;have hck:=λ(d:Bool) (H:a02)=>a84 (d:=d) H c hc nd pin val hf;have hsc:∀hh:FHeap,a55 L.env hh 69 (.iptr (p0.enc++p1.enc)) none none none=some (.islice [p0.enc,p1.enc] (some 2)):=λhh=>by rfl
 obtain⟨qs,hq1,hq2,hins⟩:=c9l c hc hkn (some (some 2)) [p0,p1] (by intro p hp;simp at hp;rcases hp with rfl|rfl<;>assumption) (by simp);have hqk:∀q∈qs,q≠[]:=λq hq e=>by have:=(hq2 q hq).1;rw[e,hkl]at this;have:=ht.k1;simp at *;omega
 have hq2l:qs.length=2:=hq1;obtain⟨A,hA⟩:∃A,inF qs=A:=⟨_,rfl⟩
 simp only[Cir.enc,CX.enc,FX.enc,Flt.enc,Pat.enc,List.cons_append,List.nil_append,a4n,List.map_cons,List.map_nil]at hlo hfo hck hins hsc⊢;have hCR:FlatR [[sl c.nc (c.nodes.map Nd.enc),sl c.mc (c.names.map a1h),.nilslice,sl c.oc (c.outs.map a0h)]]:=FlatR.cons (a3q c) FlatR.nil;have hFR:FlatR [[.int .u8 1,.int .i64 nd,.int .i64 pin,.int .u8 val,.int .i64 0]]:=FlatR.cons rfl FlatR.nil;have hA2:∀a∈A,a.2.length=k∧∀v∈a.2,v≤2:=by intro a ha;rw[←hA]at ha;obtain⟨q,hq,rfl⟩:=List.mem_map.1 ha;refine⟨by rw[List.length_map,(hq2 q hq).1,hkl],λv hv=>?_⟩;obtain⟨w,_,rfl⟩:=List.mem_map.1 hv;exact e1x w
 have hAl2:A.length=2:=by rw[←hA,inF,List.length_map];omega
 rcases hins with ⟨h0,_⟩|⟨b0,ids0,LL,hne,hin,hT0⟩
 ·rw[h0]at hq2l;cases hq2l
 refine svY Tryz.f5 0 1 ?_;simp only[Tryz.f5,gS];refine a6x ?_
 (repeat first|simp only[ww]|(apply xa;simp+decide only[go_sem];rfl;kernel_rfl))
 try rw[a7m]
 try simp only[b8x,List.length_nil,Nat.zero_add]
 repeat rw[a1o (by simp+decide only[go_sem,a65,a1f,and_true,true_and])]
 simp+decide only[go_sem,List.take_zero];refine d1x ?_
 (repeat first|simp only[ww]|(apply xa;simp+decide only[go_sem,hlo,hfo,hck];rfl;kernel_rfl))
 (repeat first|simp only[ww]|((with_reducible first|apply xs3|apply xI);(·simp+decide only[go_sem,hlo,hfo,hck,hsc,hin,List.length_map,List.length_cons,List.length_nil];rfl);first|with_reducible apply xT|with_reducible apply xF|(·repeat' (first|exact b7o|exact b7d|refine b3d ?_ ?_|refine b7c (by simp only[List.length_cons,List.length_nil];decide+kernel) ?_|refine b7e (b4a (by simp<;>omega) (by simp<;>omega) (by simp<;>omega)) ?_))))
 refine e1z kp5_0 rfl (λN F H=>∃(i cb fb b:Nat) (ids:Nat→Nat),N=qs.length-i∧i≤qs.length∧F=[(7,.ptr cb 0 0),(8,.ptr fb 0 0),(9,.slice b 0 qs.length none),(10,.int .i64 i),(1000000,.junk)]∧a01 H cb=some (.row 4 [[sl c.nc (c.nodes.map Nd.enc),sl c.mc (c.names.map a1h),.nilslice,sl c.oc (c.outs.map a0h)]])∧a01 H fb=some (.row 5 [[.int .u8 1,.int .i64 nd,.int .i64 pin,.int .u8 val,.int .i64 0]])∧Two H b 1 ids cpN (foQ (xQ qs i))) qs.length ?_ ?_
 ·refine b41 (Two.head3 (hT0 [_,_]) (x:=0) (y:=1) rfl hCR rfl hFR (by simp+decide only[go_sem]<;>rfl) (by rw[a78];omega) (λcb fb b=>[(7,.ptr cb 0 0),(8,.ptr fb 0 0),(9,.slice b 0 qs.length none),(10,.int .i64 0),(1000000,.junk)]) (λπ x' y' b' h1 h2 h3=>by have h3:π (2+b0)=some b':=h3;simp+decide only[go_sem,h1,h2,h3]<;>rfl)) ?_
  rintro F H ⟨cb,fb,b,ids,rfl,e1,e2,e3⟩
  exact⟨0,cb,fb,b,ids,rfl,Nat.zero_le _,rfl,e1,e2,by rw[f2y];exact e3⟩
 ·rintro N F H ⟨i,cb,fb,b,ids,rfl,hi,rfl,hcb,hfb,hT⟩
  by_cases hlt:i<qs.length
  ·obtain⟨q,hq⟩:∃q,qs[i]?=some q:=⟨_,z9e hlt⟩
   obtain⟨hqk1,hqv⟩:=hq2 q (List.mem_of_getElem? hq);rw[hkl]at hqk1;have c1:(i:Int)<qs.length:=by omega
   have hwi:=wI1 (n:=i) (by omega);have hxq:=e72 hq;have hse:(xQ qs i).set i (xP q 0)=xQ qs i:=by
    rw[f3a];apply List.ext_getElem?;intro j;rw[List.getElem?_set];split
    ·rename_i h;subst h;rw[hxq,a9l,if_pos hlt]
    ·rfl
   have hsl:((xQ qs i).set i q).length=qs.length:=by rw[List.length_set,a9l]
   (repeat first|simp only[ww]|(apply xa;simp+decide only[go_sem,c1];rfl;kernel_rfl))
   refine a4j kp5_2 (λN F H=>∃(k' cb fb b:Nat) (ids:Nat→Nat),N=k-k'∧k'≤k∧F=[(7,.ptr cb 0 0),(8,.ptr fb 0 0),(9,.slice b 0 qs.length none),(10,.int .i64 i),(11,.int .i64 k')]∧a01 H cb=some (.row 4 [[sl c.nc (c.nodes.map Nd.enc),sl c.mc (c.names.map a1h),.nilslice,sl c.oc (c.outs.map a0h)]])∧a01 H fb=some (.row 5 [[.int .u8 1,.int .i64 nd,.int .i64 pin,.int .u8 val,.int .i64 0]])∧Two H b 1 ids cpN (foQ ((xQ qs i).set i (xP q k')))) k ?_ ?_
   ·refine b41 (Two.head3 hT hcb hCR hfb hFR (by simp+decide only[go_sem]<;>rfl) (by rw[a78,a9l];omega) (λcb fb b=>[(7,.ptr cb 0 0),(8,.ptr fb 0 0),(9,.slice b 0 qs.length none),(10,.int .i64 i),(11,.int .i64 0)]) (λπ x' y' b' h1 h2 h3=>by simp+decide only[go_sem,h1,h2,h3]<;>rfl)) ?_
    rintro F H ⟨cb,fb,b,ids,rfl,e1,e2,e3⟩
    exact⟨0,cb,fb,b,ids,rfl,Nat.zero_le _,rfl,e1,e2,by rw[hse];exact e3⟩
   ·rintro N F H ⟨k',cb,fb,b,ids,rfl,hk',rfl,hcb,hfb,hT⟩
    have hfi:((xQ qs i).set i (xP q k'))[i]?=some (xP q k'):=by rw[List.getElem?_set,if_pos rfl,a9l,if_pos hlt]
    have hfo:=d97 hfi;have hfn:(xP q k').map u8R≠[]:=by intro e;have:=congrArg List.length e;rw[List.length_map,c2y,hqk1]at this;have:=ht.k1;simp at *;omega
    have hxl:(xP q k').length=k:=by rw[c2y,hqk1]
    have hget:=a51 (ids:=ids) (cp:=cpN) hfo;rw[b5f _ _ hfn,List.length_map,hxl]at hget;obtain⟨hs1,hs2⟩:=hT.sub i _ hfo hfn;have hid:=a1c hs1;have htop:=hT.top;have hbl:=a1c htop;have hrl:(a2c ids cpN (foQ ((xQ qs i).set i (xP q k')))).length=qs.length:=by rw[a2l,a78,List.length_set,a9l]
    obtain⟨hcb1,hcb2⟩:=hT.apart hcb (by omega) (by omega);obtain⟨hfb1,hfb2⟩:=hT.apart hfb (by omega) (by omega);by_cases hkk:k'<k
    ·obtain⟨v,hv⟩:∃v,q[k']?=some v:=⟨_,z9e (by omega)⟩
     have hv3:=hqv v (List.mem_of_getElem? hv);have d1:(k':Int)<k:=by omega
     have hwk:=wI1 (n:=k') (by have:=ht.k4;omega);have hva:=e73 hv;have hvs:=f2z hv;have hur:∀v,u8R v=[.int .u8 v]:=λ_=>rfl;by_cases hv0:v=3
     ·subst hv0;have hst:((xP q k').map u8R).set k' [AV.int .u8 2]=(xP q (k'+1)).map u8R:=by rw[hvs,List.map_set];rfl
      have hTn:=hT.upd hfo hfn (f':=(xP q (k'+1)).map u8R) (by simp[c2y]) (FlatR.map λ_=>rfl) hid;rw[d96,List.set_set]at hTn
      (repeat first|simp only[ww]|(apply xa;simp+decide only[go_sem,d1,hlt,hkk,htop,hget,hs1,hrl,hva,hur,hst,hid,hxl,hwk,hbl,List.length_map];rfl;kernel_rfl))
      refine a1j (k-(k'+1)) (by omega) (b41 (Two.head3 hTn (by rw[a38 (Ne.symm (hcb2 i _ hfo hfn)),hcb]) hCR (by rw[a38 (Ne.symm (hfb2 i _ hfo hfn)),hfb]) hFR (by simp+decide only[go_sem]<;>rfl) (by rw[a78,List.length_set,a9l];omega) (λcb fb b=>[(7,.ptr cb 0 0),(8,.ptr fb 0 0),(9,.slice b 0 qs.length none),(10,.int .i64 i),(11,.int .i64 (k'+1:Nat))]) (λπ x' y' b' h1 h2 h3=>by simp+decide only[go_sem,h1,h2,h3]<;>rfl)) ?_)
      rintro F H ⟨cb,fb,b,ids,rfl,e1,e2,e3⟩
      exact⟨k'+1,cb,fb,b,ids,rfl,hkk,rfl,e1,e2,e3⟩
     ·have c3:¬(v:Int)=3:=by omega
      have hxv:xz v=v:=e1y (by omega);rw[hxv]at hvs;have hst:(xP q k').set k' v=xP q k':=by
       apply List.ext_getElem?;intro j;rw[List.getElem?_set];split
       ·rename_i h;subst h;rw[hva,hxl,if_pos hkk]
       ·rfl
      rw[hst]at hvs
      (repeat first|simp only[ww]|(apply xa;simp+decide only[go_sem,d1,hlt,hkk,htop,hget,hs1,hrl,hva,hur,hid,hxl,hwk,hbl,c3,List.length_map];rfl;kernel_rfl))
      refine a1j (k-(k'+1)) (by omega) (b41 (Two.head3 hT hcb hCR hfb hFR (by simp+decide only[go_sem]<;>rfl) (by rw[a78,List.length_set,a9l];omega) (λcb fb b=>[(7,.ptr cb 0 0),(8,.ptr fb 0 0),(9,.slice b 0 qs.length none),(10,.int .i64 i),(11,.int .i64 (k'+1:Nat))]) (λπ x' y' b' h1 h2 h3=>by simp+decide only[go_sem,h1,h2,h3]<;>rfl)) ?_)
      rintro F H ⟨cb,fb,b,ids,rfl,e1,e2,e3⟩
      exact⟨k'+1,cb,fb,b,ids,rfl,hkk,rfl,e1,e2,by rw[hvs];exact e3⟩
    ·obtain rfl:k'=k:=by omega
     have d1:¬(k':Int)<k':=by omega
     have hxe:(xQ qs i).set i (xP q k')=xQ qs (i+1):=by rw[f2x hq,←hqk1,e21]
     rw[hxe]at hT;rw[hxe]at hget htop hrl
     (repeat first|simp only[ww]|(apply xa;simp+decide only[go_sem,d1,hlt,htop,hget,hrl,hbl,hwi,List.length_map];rfl;kernel_rfl))
     refine a1j (qs.length-(i+1)) (by omega) (b41 (Two.head3 hT hcb hCR hfb hFR (by simp+decide only[go_sem]<;>rfl) (by rw[a78,a9l];omega) (λcb fb b=>[(7,.ptr cb 0 0),(8,.ptr fb 0 0),(9,.slice b 0 qs.length none),(10,.int .i64 (i+1:Nat)),(1000000,.junk)]) (λπ x' y' b' h1 h2 h3=>by simp+decide only[go_sem,h1,h2,h3]<;>rfl)) ?_)
     rintro F H ⟨cb,fb,b,ids,rfl,e1,e2,e3⟩
     exact⟨i+1,cb,fb,b,ids,rfl,hlt,rfl,e1,e2,e3⟩
  ·obtain rfl:i=qs.length:=by omega
   have c1:¬(qs.length:Int)<qs.length:=by omega
   rw[e20]at hT;have hz:=hT.frz none;rw[a78,List.length_map,d8v qs hqk,hA]at hz
   (repeat first|simp only[ww]|(apply xa;simp+decide only[go_sem,c1];rfl;kernel_rfl))
   rw[d05];simp+decide only[go_sem,hz,hcb,hfb,Nat.not_lt_zero,Option.getD_some];exact c7q hlv c hc ht ord hord nd pin val hf A hAl2 hA2 _ _ _ _ _ _
end Go.UInst
