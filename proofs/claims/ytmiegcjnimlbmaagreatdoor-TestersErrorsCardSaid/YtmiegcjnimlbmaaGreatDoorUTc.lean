/- Part of a proof. No condition. -/
import Derived.Test.YtmiegcjnimlbmaaGreatDoorUTb
import Derived.Test.YtmiegcjnimlbmaaGreatDoorUIn
import Derived.Test.YtmiegcjnimlbmaaGreatDoorUNe
import Derived.Test.YtmiegcjnimlbmaaGreatDoorUTa
import Derived.Test.YtmiegcjnimlbmaaGreatDoorAxD
set_option linter.unusedSectionVars false
set_option linter.unusedSimpArgs false
set_option linter.unusedVariables false
namespace Go.UInst
open Go.Proofs Go.Ax Go.Pc
variable [ZC]
set_option maxRecDepth 100000
theorem d0h(c:Cir)(hc:c.wf)(hO:c.outs≠[])(ord:List Nat)(aH:OrdOf c ord)(p:Pat)(hp:PatOk c.nodes p)(nd:Nat)(pin:Int)(val:Nat)(I S:AV)(hI:refs I=[])(hS:refs S=[]) :
 sM 123 [.agg [sl p.ic (p.ins.map u8R),sl p.sc (p.sts.map u8R)],.ptr 0 0 0,.ptr 1 0 0,.iptr (ce c),.iptr [.islice [fb 1 nd pin val 0] (some 1)],.ptr 2 0 0] [some (.row 1 [[.bool true]]),some (.row 1 [[fn1 c]]),some (.row 2 [[I,S]])] =
  some (a7j (a17 c.outs (gN c ord p.ins p.sts)) (a1x c.nodes (gN c ord p.ins p.sts)),[some (.row 1 [[.bool false]]),some (.row 1 [[fn1 c]]),some (.row 2 [[sl p.ic (p.ins.map u8R),sl p.sc (p.sts.map u8R)]])]):=by
 have hs:=λ(d:Bool) (H:a03)=>c7f c hc hO ord aH p hp (d:=d) H;simp only[Pat.enc]at hs;unfold a7j at hs⊢;have s1:=a11 (a17 c.outs (gN c ord p.ins p.sts));have s2:=a11 (a1x c.nodes (gN c ord p.ins p.sts));have r1:=a0w (a17 c.outs (gN c ord p.ins p.sts));have r2:=a0w (a1x c.nodes (gN c ord p.ins p.sts));have c1:=b26 (a17 c.outs (gN c ord p.ins p.sts));have c2:=b26 (a1x c.nodes (gN c ord p.ins p.sts));generalize a29 (a17 c.outs (gN c ord p.ins p.sts))=C1 at hs s1 r1 c1⊢;generalize a29 (a1x c.nodes (gN c ord p.ins p.sts))=C2 at hs s2 r2 c2⊢;have f1:=λm t d=>a0i m t d _ r1;have f2:=λm t d=>a0i m t d _ r2;have w0:=λπ=>a0b π _ (b11 c);have w1:=b11 c;have w3:(fn1 c).storable=true:=rfl;have w4:a7g (fn1 c)=some (fn1 c):=rfl;generalize fn1 c=G at hs w0 w1 w3 w4⊢
 (refine sv Tryz.f123 ?_;simp only[Tryz.f123,gS])
 (repeat first|simp only[ww]|apply xa;simp+decide only[go_sem,hs,s1,s2,c1,c2,w3,w4];rfl;kernel_rfl)
 (apply fqb;simp+decide only[go_sem,f1,f2,w0,w1]<;>rfl)
theorem d0g(c:Cir)(G:AV)(hG:refs G=[])(p q:Pat)(nd:Nat)(pin:Int)(val:Nat)(C1 C2:AV)(s1:AV.storable C1=true)(s2:AV.storable C2=true)(r1:refs C1=[])(r2:refs C2=[])(c1:AV.cells C1=[C1])(c2:AV.cells C2=[C2])
 (hp:∀(d:Bool) (H:a03),cl d 24 [.agg (ce c),.agg (fb 1 nd pin val 0),.agg [sl q.ic (q.ins.map u8R),sl q.sc (q.sts.map u8R)],.agg [sl p.ic (p.ins.map u8R),sl p.sc (p.sts.map u8R)]] H=some (.tuple [.agg [C1,C2],.junk,.int .i64 0],H,[])) :
 sM 123 [.agg [sl p.ic (p.ins.map u8R),sl p.sc (p.sts.map u8R)],.ptr 0 0 0,.ptr 1 0 0,.iptr (ce c),.iptr [.islice [fb 1 nd pin val 0] (some 1)],.ptr 2 0 0] [some (.row 1 [[.bool false]]),some (.row 1 [[G]]),some (.row 2 [[sl q.ic (q.ins.map u8R),sl q.sc (q.sts.map u8R)]])] =
  some (.agg [C1,C2],[some (.row 1 [[.bool false]]),some (.row 1 [[G]]),some (.row 2 [[sl p.ic (p.ins.map u8R),sl p.sc (p.sts.map u8R)]])]):=by
 have f1:=λm t d=>a0i m t d _ r1;have f2:=λm t d=>a0i m t d _ r2;have w0:=λπ=>a0b π _ hG;have i8:∀(r:List AV) (rs:List (List AV)),Ax.rowAt (r::rs) 0=some r:=λ_ _=>rfl
 (refine sv Tryz.f123 ?_;simp only[Tryz.f123,gS])
 (repeat first|simp only[ww]|apply xa;simp+decide only[go_sem,hp,s1,s2,c1,c2,i8];rfl;kernel_rfl)
 (apply fqb;simp+decide only[go_sem,f1,f2,w0,hG]<;>rfl)
theorem d0j(c:Cir)(hc:c.wf)(nd:Nat)(pin:Int)(val:Nat):sM 68 [.agg (ce c),.islice [fb 1 nd pin val 0] (some 1)] [] =
 some (.ptr 0 0 0,[some (.row 3 [[.func (.func 123) [] [.ptr 2 0 0,.ptr 1 0 0,.iptr (ce c),.iptr [.islice [fb 1 nd pin val 0] (some 1)],.ptr 3 0 0],.islice ((List.replicate (kinds c.nodes 0).length 2).map u8R) (some (kinds c.nodes 0).length),.islice ((List.replicate (kinds c.nodes 14).length 2).map u8R) (some (kinds c.nodes 14).length)]]),some (.row 1 [[fn1 c]]),some (.row 1 [[.bool true]]),some (.row 2 [[.nilslice,.nilslice]])]):=by
 have hb:∀(d:Bool) (H:a03),cl d 22 [.agg (ce c)] H=some (.agg [.islice ((List.replicate (kinds c.nodes 0).length 2).map u8R) (some (kinds c.nodes 0).length),.islice ((List.replicate (kinds c.nodes 14).length 2).map u8R) (some (kinds c.nodes 14).length)],H,[]):=λd H=>b06 H c hc;have i8:∀(r:List AV) (rs:List (List AV)),Ax.rowAt (r::rs) 0=some r:=λ_ _=>rfl;simp only[fn1,Cir.enc];refine f3x Tryz.f68 0 1 ?_;simp only[Tryz.f68,gS];refine a7k ?_
 (repeat first|simp only[ww]|apply xa;simp+decide only[go_sem];rfl;kernel_rfl)
 try rw[a8a]
 try simp only[c0k,f1h,f2u]
 repeat rw[a1z (by simp+decide only[go_sem,a6r,a1n,f8s,f9h])]
 simp+decide only[go_sem,f3c,f2j,f6x];refine d54 ?_
 (repeat first|simp only[ww]|apply xa;simp+decide only[go_sem,hb,i8];rfl;kernel_rfl)
 refine e75 (vs:=[.ptr 0 0 0]) (by simp+decide only[go_sem]) (by rfl)
theorem c7d{d:Bool}{c:Cir}{nd:Nat}{pin:Int}{val:Nat}{P V:AV}{b b':Bool}{G I S I' S':AV}(hP:refs P=[])(hG:refs G=[])(hI:refs I=[])(hS:refs S=[])(jf:refs I'=[])(oB:refs S'=[])(hV:refs V=[])(X:Option AObj)
 (h:sM 123 [P,.ptr 0 0 0,.ptr 1 0 0,.iptr (ce c),.iptr [.islice [fb 1 nd pin val 0] (some 1)],.ptr 2 0 0] [some (.row 1 [[.bool b]]),some (.row 1 [[G]]),some (.row 2 [[I,S]])]=some (V,[some (.row 1 [[.bool b']]),some (.row 1 [[G]]),some (.row 2 [[I',S']])])) :
 a20 L.env d sM (.func (.func 123) [] [.ptr 1 0 0,.ptr 2 0 0,.iptr (ce c),.iptr [.islice [fb 1 nd pin val 0] (some 1)],.ptr 3 0 0]) [P] [X,some (.row 1 [[.bool b]]),some (.row 1 [[G]]),some (.row 2 [[I,S]])]=some (V,[X,some (.row 1 [[.bool b']]),some (.row 1 [[G]]),some (.row 2 [[I',S']])],[1,2,3]):=by
 have p2:=λπ=>a0b π _ hP;have g2:=λπ=>a0b π _ hG;have i2:=λπ=>a0b π _ hI;have s2:=λπ=>a0b π _ hS;have i3:=λπ=>a0b π _ jf;have s3:=λπ=>a0b π _ oB;have v3:=λπ=>a0b π _ hV;refine a63 (by kernel_rfl) (by kernel_rfl) rfl ((a1v (sM 123) _ [X,some (.row 1 [[.bool b]]),some (.row 1 [[G]]),some (.row 2 [[I,S]])] (σ:=[1,2,3]) (by simp+decide only[go_sem,hP,hG,hI,hS]) rfl rfl (by simp+decide only[go_sem,p2]<;>rfl) (by simp+decide only[go_sem,g2,i2,s2]<;>rfl) h).trans ?_) rfl;simp+decide only[go_sem,g2,i3,s3,v3]<;>rfl
theorem d3l(c:Cir)(nd:Nat)(pin:Int)(val:Nat)(I0 W C1 C2 Lx Ly:AV)(b b':Bool)(G:AV)(i:List Nat)(ci:Option Nat)(hG:refs G=[])(lW:refs I0=[])(hW:refs W=[])(hx:refs Lx=[])(hy:refs Ly=[])(qa:AV.storable W=true)(qc:AV.cells W=[W])(qb:AV.isJunk W=false)(s1:AV.storable C1=true)(s2:AV.storable C2=true)(r1:refs C1=[])(r2:refs C2=[])(c1:AV.cells C1=[C1])(c2:AV.cells C2=[C2])(j1:AV.isJunk C1=false)(j2:AV.isJunk C2=false)
 (h:sM 123 [.agg [.islice (i.map u8R) ci,W],.ptr 0 0 0,.ptr 1 0 0,.iptr (ce c),.iptr [.islice [fb 1 nd pin val 0] (some 1)],.ptr 2 0 0] [some (.row 1 [[.bool b]]),some (.row 1 [[G]]),some (.row 2 [[Lx,Ly]])]=some (.agg [C1,C2],[some (.row 1 [[.bool b']]),some (.row 1 [[G]]),some (.row 2 [[.islice (i.map u8R) ci,W]])])) :
 sM 70 [.ptr 0 0 0,.islice (i.map u8R) ci] [some (.row 3 [[.func (.func 123) [] [.ptr 1 0 0,.ptr 2 0 0,.iptr (ce c),.iptr [.islice [fb 1 nd pin val 0] (some 1)],.ptr 3 0 0],I0,W]]),some (.row 1 [[.bool b]]),some (.row 1 [[G]]),some (.row 2 [[Lx,Ly]])] =
  some (C1,[some (.row 3 [[.func (.func 123) [] [.ptr 1 0 0,.ptr 2 0 0,.iptr (ce c),.iptr [.islice [fb 1 nd pin val 0] (some 1)],.ptr 3 0 0],.islice (i.map u8R) ci,C2]]),some (.row 1 [[.bool b']]),some (.row 1 [[G]]),some (.row 2 [[.islice (i.map u8R) ci,W]])]):=by
 have hi:refs (.islice (i.map u8R) ci)=[]:=rfl;have hc:=λ(d:Bool) (X:Option AObj)=>c7d (d:=d) (c:=c) (nd:=nd) (pin:=pin) (val:=val) (P:=.agg [.islice (i.map u8R) ci,W]) (V:=.agg [C1,C2]) (by simp only[a0n,a04,hi,hW,a0t,f1b]) hG hx hy hi hW (by simp only[a0n,a04,r1,r2,a0t,f1b]) X h;have f1:=λm t d=>a0i m t d _ r1;have f2:=λm t d=>a0i m t d _ r2;have w2:=λπ=>a0b π _ r2;have w3:=λπ=>a0b π _ hW;have w0:=λπ=>a0b π _ hG
 (refine sv Tryz.f70 ?_;simp only[Tryz.f70,gS])
 (repeat first|simp only[ww]|apply xa;simp+decide only[go_sem,hc,qa,qc,qb,s1,s2,c1,c2,j1,j2];rfl;kernel_rfl)
 (apply fqb;simp+decide only[go_sem,f1,f2,w0,w2,w3]<;>rfl)
theorem c3e{d:Bool}(A B:Option AObj)(c:Cir)(hc:c.wf)(nd:Nat)(pin:Int)(val:Nat):cl d 68 [.agg (ce c),.islice [fb 1 nd pin val 0] (some 1)] [A,B] =
 some (.ptr 2 0 0,[A,B,some (.row 3 [[.func (.func 123) [] [.ptr 4 0 0,.ptr 3 0 0,.iptr (ce c),.iptr [.islice [fb 1 nd pin val 0] (some 1)],.ptr 5 0 0],.islice ((List.replicate (kinds c.nodes 0).length 2).map u8R) (some (kinds c.nodes 0).length),.islice ((List.replicate (kinds c.nodes 14).length 2).map u8R) (some (kinds c.nodes 14).length)]]),some (.row 1 [[fn1 c]]),some (.row 1 [[.bool true]]),some (.row 2 [[.nilslice,.nilslice]])],[]):=by
 have h:=d0j c hc nd pin val;have g2:=λπ=>a0b π _ (b11 c);refine d84 (by kernel_rfl) (by kernel_rfl) rfl ((a1v (sM 68) _ [A,B] (σ:=[]) (by simp+decide only[go_sem]) rfl rfl (by simp+decide only[go_sem]<;>rfl) (by rfl) h).trans ?_) (by simp);simp+decide only[go_sem,g2]<;>rfl
theorem c4f{d:Bool}(K:a03)(c:Cir)(nd:Nat)(pin:Int)(val:Nat)(I0 W C1 C2 Lx Ly:AV)(b b':Bool)(G:AV)(i:List Nat)(ci:Option Nat)(hG:refs G=[])(lW:refs I0=[])(hW:refs W=[])(hx:refs Lx=[])(hy:refs Ly=[])(qa:AV.storable W=true)(qc:AV.cells W=[W])(qb:AV.isJunk W=false)(s1:AV.storable C1=true)(s2:AV.storable C2=true)(r1:refs C1=[])(r2:refs C2=[])(c1:AV.cells C1=[C1])(c2:AV.cells C2=[C2])(j1:AV.isJunk C1=false)(j2:AV.isJunk C2=false)
 (h:sM 123 [.agg [.islice (i.map u8R) ci,W],.ptr 0 0 0,.ptr 1 0 0,.iptr (ce c),.iptr [.islice [fb 1 nd pin val 0] (some 1)],.ptr 2 0 0] [some (.row 1 [[.bool b]]),some (.row 1 [[G]]),some (.row 2 [[Lx,Ly]])]=some (.agg [C1,C2],[some (.row 1 [[.bool b']]),some (.row 1 [[G]]),some (.row 2 [[.islice (i.map u8R) ci,W]])])) :
 cl d 70 [.ptr 0 0 0,.islice (i.map u8R) ci] (some (.row 3 [[.func (.func 123) [] [.ptr 1 0 0,.ptr 2 0 0,.iptr (ce c),.iptr [.islice [fb 1 nd pin val 0] (some 1)],.ptr 3 0 0],I0,W]])::some (.row 1 [[.bool b]])::some (.row 1 [[G]])::some (.row 2 [[Lx,Ly]])::K) =
  some (C1,some (.row 3 [[.func (.func 123) [] [.ptr 1 0 0,.ptr 2 0 0,.iptr (ce c),.iptr [.islice [fb 1 nd pin val 0] (some 1)],.ptr 3 0 0],.islice (i.map u8R) ci,C2]])::some (.row 1 [[.bool b']])::some (.row 1 [[G]])::some (.row 2 [[.islice (i.map u8R) ci,W]])::K,[0,1,2,3]):=by
 have hc:=d3l c nd pin val I0 W C1 C2 Lx Ly b b' G i ci hG lW hW hx hy qa qc qb s1 s2 r1 r2 c1 c2 j1 j2 h;have e4:List.range 4=[0,1,2,3]:=rfl;have g2:=λπ=>a0b π _ hG;have i2:=λπ=>a0b π _ lW;have w2:=λπ=>a0b π _ hW;have x2:=λπ=>a0b π _ hx;have y2:=λπ=>a0b π _ hy;have c3:=λπ=>a0b π _ r2;have hp:=d3w (E:=L.env) (ah:=d) (call:=sM) (g:=70) (fs:=[]) (cs:=[]) (ar:=[.ptr 0 0 0,.islice (i.map u8R) ci]) (args:=[.ptr 0 0 0,.islice (i.map u8R) ci]) (P:=[some (.row 3 [[.func (.func 123) [] [.ptr 1 0 0,.ptr 2 0 0,.iptr (ce c),.iptr [.islice [fb 1 nd pin val 0] (some 1)],.ptr 3 0 0],I0,W]]),some (.row 1 [[.bool b]]),some (.row 1 [[G]]),some (.row 2 [[Lx,Ly]])]) (K:=K) (n:=4) (by kernel_rfl) (by kernel_rfl) rfl rfl
  (by rw[e4];simp+decide only[go_sem,hG,lW,hW,hx,hy,f2o,f1e]<;>rfl) (by rw[e4];simp+decide only[go_sem]<;>rfl) (by rw[e4];simp+decide only[go_sem,g2,i2,w2,x2,y2]<;>rfl) hc rfl (by rw[e4];simp+decide only[go_sem,g2,w2,c3]<;>rfl) r1
 exact hp
theorem d1u:sM 71 [.nilslice] []=some (.nilslice,[]):=by
 (refine sv Tryz.f71 ?_;simp only[Tryz.f71,gS])
 (repeat first|simp only[ww]|apply xa;simp+decide only[go_sem];rfl;kernel_rfl)
 (apply fqb;simp+decide only[go_sem]<;>rfl)
theorem b4s{d:Bool}(H:a03):cl d 71 [.nilslice] H=some (.nilslice,H,[]):=cf rfl d1u rfl
theorem c6l{l:List Nat}{n:Nat}(h:l.length=n)(hn:1<=n):a29 l = .islice (l.map u8R) (some n):=by
 cases l with
 |nil=>simp at h;omega
 |cons x r=>subst h;rfl
theorem d3m(FV I0 W C1 C2:AV)(i:List Nat)(ci:Option Nat)(hF:refs FV=[])(hW:refs W=[])(qa:AV.storable W=true)(qc:AV.cells W=[W])(qb:AV.isJunk W=false)(s1:AV.storable C1=true)(s2:AV.storable C2=true)(r1:refs C1=[])(r2:refs C2=[])(c1:AV.cells C1=[C1])(c2:AV.cells C2=[C2])(j1:AV.isJunk C1=false)(j2:AV.isJunk C2=false)
 (hs:∀(d:Bool) (H:a03),a20 L.env d sM FV [.agg [.islice (i.map u8R) ci,W]] H=some (.agg [C1,C2],H,[])) :
 sM 70 [.ptr 0 0 0,.islice (i.map u8R) ci] [some (.row 3 [[FV,I0,W]])]=some (C1,[some (.row 3 [[FV,.islice (i.map u8R) ci,C2]])]):=by
 have f1:=λm t d=>a0i m t d _ r1;have f2:=λm t d=>a0i m t d _ r2;have w2:=λπ=>a0b π _ r2;have w0:=λπ=>a0b π _ hF
 (refine sv Tryz.f70 ?_;simp only[Tryz.f70,gS])
 (repeat first|simp only[ww]|apply xa;simp+decide only[go_sem,hs,qa,qc,qb,s1,s2,c1,c2,j1,j2];rfl;kernel_rfl)
 (apply fqb;simp+decide only[go_sem,f1,f2,w0,w2]<;>rfl)
theorem d6k{FV I W:AV}(hf:refs FV=[])(hi:refs I=[])(hw:refs W=[]):FlatR [[FV,I,W]]:=FlatR.cons (by simp only[a04,hf,hi,hw,a0t,f1b]) FlatR.nil
theorem c4g{d:Bool}{H:a03}{b:Nat}(FV I0 C1 C2:AV)(rs:Rep)(s i:List Nat)(ci:Option Nat)(hF:refs FV=[])(lW:refs I0=[])(s1:AV.storable C1=true)(s2:AV.storable C2=true)(r1:refs C1=[])(r2:refs C2=[])(c1:AV.cells C1=[C1])(c2:AV.cells C2=[C2])(j1:AV.isJunk C1=false)(j2:AV.isJunk C2=false)
 (hs:∀(d:Bool) (H:a03),a20 L.env d sM FV [.agg [.islice (i.map u8R) ci,sl rs (s.map u8R)]] H=some (.agg [C1,C2],H,[]))(hb:a02 H b=some (.row 3 [[FV,I0,sl rs (s.map u8R)]])) :
 cl d 70 [.ptr b 0 0,.islice (i.map u8R) ci] H=some (C1,H.set b (some (.row 3 [[FV,.islice (i.map u8R) ci,C2]])),[b]):=by
 have q1:∀(l:List Nat) n,refs (.islice (l.map u8R) n)=[]:=λl n=>rfl;have g1:AV.storable (sl rs (s.map u8R))=true:=by simp only[go_sem]
 have g2:AV.cells (sl rs (s.map u8R))=[sl rs (s.map u8R)]:=by simp only[go_sem]
 have g3:AV.isJunk (sl rs (s.map u8R))=false:=by simp only[go_sem]
 refine a3h (by kernel_rfl) (by kernel_rfl) rfl hb ?_ (FlatO.row (d6k hF lW (a16 _ _))) ?_ (au:=[.ptr 0 0 0,.islice (i.map u8R) ci]) ?_ (d3m FV I0 _ C1 C2 i ci hF (a16 _ _) g1 g2 g3 s1 s2 r1 r2 c1 c2 j1 j2 hs) (FlatO.row (d6k hF (q1 _ _) r2)) (a0b _ _ r1)
 ·simp only[a12,f4k,f7t,a04,hF,lW,a16,a0t,f1b]
 ·simp only[f1e,f1b,a04,d61,q1,a0t]
 ·simp only[f1e,f1b,f1a,f1g,a0b _ _ (q1 _ _)];simp[ren,a78,f7e]
structure Stp(c:Cir)(A:List (Rep×List Nat))(k m:Nat)(FV:AV)(O S:Nat->List Nat)(R:Nat->Rep):Prop where
 fl:refs FV=[]
 sto:AV.storable FV=true
 st:∀i,i<A.length->∀(d:Bool) (H:a03),a20 L.env d sM FV [.agg [.islice ((inA (xA A) i).map u8R) (some k),sl (R i) ((S i).map u8R)]] H=some (.agg [a29 (O i),sl (R (i+1)) ((S (i+1)).map u8R)],H,[])
 ol:∀i,(O i).length=m
def d9f(w g:Nat):Bool:=(decide (w=0)&&decide (g=1))||(decide (w=1)&&decide (g=0))
def a8e(i q g:Nat):List AV:=[.int .i64 i,.int .i64 q,.int .u8 g]
def msQ(i:Nat)(W O:List Nat)(n:Nat):List (List AV):=(List.range n).flatMap λq=>if d9f (W.getD q 0) (O.getD q 0)then[a8e i q (O.getD q 0)]else[]
theorem d1s(i:Nat)(W O:List Nat):msQ i W O 0=[]:=rfl
theorem d1r(i:Nat)(W O:List Nat)(q:Nat):msQ i W O (q+1)=msQ i W O q++if d9f (W.getD q 0) (O.getD q 0)then[a8e i q (O.getD q 0)]else[]:=by simp[msQ,f8o]
def msI(W O:Nat->List Nat)(m n:Nat):List (List AV):=(List.range n).flatMap λi=>msQ i (W i) (O i) m
theorem e1l(W O:Nat->List Nat)(m n:Nat):msI W O m (n+1)=msI W O m n++msQ n (W n) (O n) m:=by simp[msI,f8o]
theorem b12(i:Nat)(W O:List Nat)(n:Nat):FlatR (msQ i W O n):=by
 intro r hr;simp only[msQ,f9k]at hr;obtain⟨q,_,hr⟩:=hr;split at hr
 ·rw[f2x]at hr;subst hr;rfl
 ·cases hr
theorem b3k(W O:Nat->List Nat)(m n:Nat):FlatR (msI W O m n):=by intro r hr;simp only[msI,f9k]at hr;obtain⟨i,_,hr⟩:=hr;exact b12 _ _ _ _ r hr
theorem b4q(i:Nat)(W O:List Nat)(n:Nat):(msQ i W O n).length<=n:=by
 induction n with
 |zero=>simp[d1s]
 |succ n ih=>rw[d1r,f2n];split<;>simp<;>omega
theorem b94(W O:Nat->List Nat)(m n:Nat):(msI W O m n).length<=n*m:=by
 induction n with
 |zero=>simp[msI]
 |succ n ih=>rw[e1l,f2n,g0h];have:=b4q n (W n) (O n) m;omega
theorem d6m(n:Nat)(aa:List (List AV))(hf:FlatR aa):sM 71 [.slice 0 0 n none] [some (.row 3 aa)]=some (.slice 0 0 n (some n),[some (.row 3 aa)]):=by
 have h1:=λπ=>a05 π hf
 (refine sv Tryz.f71 ?_;simp only[Tryz.f71,gS])
 (repeat first|simp only[ww]|apply xa;simp+decide only[go_sem];rfl;kernel_rfl)
 (apply fqb;simp+decide only[go_sem,h1]<;>rfl)
theorem b7e{d:Bool}{H:a03}{b n:Nat}{aa:List (List AV)}(hf:FlatR aa)(hb:a02 H b=some (.row 3 aa)):cl d 71 [.slice b 0 n none] H=some (.slice b 0 n (some n),H,[b]):=by have h:=a3h (E:=L.env) (ah:=d) (call:=sM) (g:=71) (fs:=[]) (cs:=[]) (ar:=[.slice b 0 n none]) (H:=H) (b:=b) (by kernel_rfl) (by kernel_rfl) rfl hb (a0p hf) (FlatO.row hf) rfl (au:=[AV.slice 0 0 n none]) (by simp only[f1e,f1b,f1a,f1g,a2b]) (d6m n aa hf) (FlatO.row hf) (a5c b 0 _ n _);rw[a9c hb]at h;exact h
def gI(c:Cir)(A:List (Rep×List Nat))(k:Nat):Nat->AV
 |0=>.islice ((List.replicate (kinds c.nodes 0).length 2).map u8R) (some (kinds c.nodes 0).length)
 |i+1=>.islice ((inA (xA A) i).map u8R) (some k)
theorem a8w(c:Cir)(A:List (Rep×List Nat))(k i:Nat):refs (gI c A k i)=[]:=by cases i<;>rfl
inductive Shp8(v:List AV)(M:Option AObj)(aa:List (List AV))(TV OV:AV)(H:a03):Prop
 |a:aa=[]->OV = .nilslice->TV = .ptr 1 0 0->H=[M,some (.row 3 [v])]->Shp8 v M aa TV OV H
 |b:aa≠[]->OV = .slice 1 0 aa.length none->TV = .ptr 2 0 0->H=[M,some (.row 3 aa),some (.row 3 [v])]->Shp8 v M aa TV OV H
 |c:aa≠[]->OV = .slice 1 0 aa.length none->TV = .iptr v->H=[M,some (.row 3 aa)]->Shp8 v M aa TV OV H
theorem b3f{w g:Nat}(hw:w<=3):(d9f w g=true∧(((a4o 76 72 w).toNat=76∧g=1)∨((a4o 76 72 w).toNat=72∧g=0)))∨(d9f w g=false∧(((a4o 76 72 w).toNat=76∧¬((g:Int)=1))∨((a4o 76 72 w).toNat=72∧¬((g:Int)=0))∨(¬(((a4o 76 72 w).toNat:Int)=76)∧¬(((a4o 76 72 w).toNat:Int)=72)))):=by
 have h4:w=0∨w=1∨w=2∨w=3:=by omega
 rcases h4 with rfl|rfl|rfl|rfl
 ·by_cases hg:g=1
  ·subst hg;exact .inl ⟨rfl,.inl ⟨by decide,rfl⟩⟩
  ·exact .inr ⟨by simp[d9f,hg],.inl ⟨by decide,by omega⟩⟩
 ·by_cases hg:g=0
  ·subst hg;exact .inl ⟨rfl,.inr ⟨by decide,rfl⟩⟩
  ·exact .inr ⟨by simp[d9f,hg],.inr (.inl ⟨by decide,by omega⟩)⟩
 ·exact .inr ⟨by simp[d9f],.inr (.inr ⟨by decide,by decide⟩)⟩
 ·exact .inr ⟨by simp[d9f],.inr (.inr ⟨by decide,by decide⟩)⟩
def b6c:List (List AV)->AV|[]=>.nilslice|x::r=>.islice (x::r) (some (r.length+1))
theorem e1j(i:Nat)(W O:List Nat)(n:Nat):∀r∈msQ i W O n,c1e r=true:=by
 intro r hr;simp only[msQ,f9k]at hr;obtain⟨q,_,hr⟩:=hr;split at hr
 ·rw[f2x]at hr;subst hr;rfl
 ·cases hr
theorem d1i(W O:Nat->List Nat)(m n:Nat):(msI W O m n).all c1e=true:=by rw[f4l];intro r hr;simp only[msI,f9k]at hr;obtain⟨i,_,hr⟩:=hr;exact e1j _ _ _ _ r hr
def e51(C P:List AV)(fr:List (List AV))(cap:Option Nat)(aa:List (List AV))(e:Nat):Prop:=∃(v:AV) (H1:a03),sM 26 [.agg C,.agg P,.islice fr cap] []=some (v,H1)∧noI v=true∧a36 0 false (a3k (a6x H1) 0 12) v=some (.tuple [b6c aa,.int .i64 e])
theorem d0u{C P:List AV}{fr:List (List AV)}{cap:Option Nat}{aa:List (List AV)}(b:Nat)(bh:FlatR aa)(pv:aa.all c1e=true)
 (h:∃r:AV×a03,(∃H1,(aa=[]∧r=(.tuple [.nilslice,.int .i64 0],H1))∨(aa≠[]∧r=(.tuple [.slice b 0 aa.length (some aa.length),.int .i64 0],H1)∧a02 H1 b=some (.row 3 aa)))∧sM 26 [.agg C,.agg P,.islice fr cap] []=some r):e51 C P fr cap aa 0:=by
 obtain⟨r,⟨H1,h1⟩,hr⟩:=h;rcases h1 with ⟨rfl,rfl⟩|⟨aw,rfl,hb⟩
 ·exact⟨_,_,hr,rfl,rfl⟩
 ·obtain⟨x,rs,rfl⟩:=f4g aw;have cM:a6x H1 b=some (.row 3 (x::rs)):=by
   unfold a6x;rw[hb];show(bif (x::rs).all c1e then _ else _)=_;rw[pv];rfl
  have h4:((x::rs).drop 0).take (rs.length+1)=x::rs:=by rw[f6s];exact f1k (by simp)
  have h5:=a0z (m:=0) (d:=a3k (a6x H1) 0 11) bh;have ia:decide (b<0)=false:=f6w (f8l b);refine⟨_,_,hr,rfl,?_⟩;simp+decide only[go_sem,a46,a3g,ia,cM,a9g,a0j,h4,h5,b6c,f1c,f2u,f2q,f8k,g0o,f2v,f4i];rfl
theorem b0u{C P:List AV}{fr:List (List AV)}{cap:Option Nat}{e:Nat}(h:∃r:AV×a03,(∃H1,r=(.tuple [.nilslice,.int .i64 e],H1))∧sM 26 [.agg C,.agg P,.islice fr cap] []=some r):e51 C P fr cap [] e:=by obtain⟨r,⟨H1,rfl⟩,h⟩:=h;exact⟨_,_,h,rfl,rfl⟩
theorem f6n{H:a03}{C P:List AV}{X W W':AV}(hC:a0d C=[])(hX:a36 0 false (a3k (a02 H) 0 12) X=some (.agg P))(hW:a36 0 false (a3k (a02 H) 0 12) W=some W'):a5r 0 false (a3k (a02 H) 0 12) [.agg C,X,W]=some [.agg C,.agg P,W']:=by rw[a3r,a0i _ _ _ (.agg C) (by rw[a0n];exact hC),a3r,hX,a3r,hW];rfl
theorem b45{C P:List AV}{fr:List (List AV)}{cap:Option Nat}{aa:List (List AV)}{e:Nat}(h:e51 C P fr cap aa e)(hC:a0d C=[]){d:Bool}{H:a03}{X W:AV}(hX:a36 0 false (a3k (a02 H) 0 12) X=some (.agg P))(hW:a36 0 false (a3k (a02 H) 0 12) W=some (.islice fr cap)) :
 cl d 26 [.agg C,X,W] H=some (.tuple [b6c aa,.int .i64 e],H,List.range H.length):=by
 obtain⟨v,H1,h1,h2,h3⟩:=h;exact a69 (args:=[.agg C,X,W]) (by kernel_rfl) (by kernel_rfl) rfl (f6n hC hX hW) h1 h2 h3
section
variable {C1 C2 C3 C4 S1 T V:AV}(hC:∀x∈[C1,C2,C3,C4,S1,T,V],refs x=[]∧x.storable=true∧x.cells=[x]∧x.isJunk=false){fr:List (List AV)}{cap:Option Nat}{aa:List (List AV)}{e:Nat}(he:e≠0->aa=[])(h:e51 [C1,C2,C3,C4] [S1,T,V] fr cap aa e)
include hC he h
theorem c7w:sM 27 [.agg [C1,C2,C3,C4],.agg [S1,T,V],.islice fr cap] []=some (.tuple [.bool (decide (e=0)&&decide (aa.length=0)),.int .i64 e],[]):=by
 obtain⟨r1,s1,k1,j1⟩:=hC C1 (by simp);obtain⟨r2,s2,k2,j2⟩:=hC C2 (by simp);obtain⟨r3,s3,k3,j3⟩:=hC C3 (by simp);obtain⟨r4,s4,k4,j4⟩:=hC C4 (by simp);obtain⟨r5,s5,k5,j5⟩:=hC S1 (by simp);obtain⟨r6,s6,k6,j6⟩:=hC T (by simp);obtain⟨r7,s7,k7,j7⟩:=hC V (by simp);have hr:=λ(d:Bool) (H:a03)=>b45 (d:=d) (H:=H) h (by simp only[a04,r1,r2,r3,r4,a0t,f1b]) (a0i _ _ _ (.agg [S1,T,V]) (by simp only[a0n,a04,r5,r6,r7,a0t,f1b])) (a0i _ _ _ (.islice fr cap) rfl);by_cases h0:e=0
 ·subst h0;cases aa with
  |nil=>
   simp only[b6c]at hr
   (refine sv Tryz.f27 ?_;simp only[Tryz.f27,gS])
   (repeat first|simp only[ww]|apply xa;simp+decide only[go_sem,hr,s1,s2,s3,s4,k1,k2,k3,k4,j1,j2,j3,j4,s5,s6,s7,k5,k6,k7,j5,j6,j7];rfl;kernel_rfl)
   (apply fqb;simp+decide only[go_sem]<;>rfl)
  |cons x rs=>
   simp only[b6c]at hr;have c1:¬((rs.length:Int)+1=0):=by omega
   (refine sv Tryz.f27 ?_;simp only[Tryz.f27,gS])
   (repeat first|simp only[ww]|apply xa;simp+decide only[go_sem,hr,s1,s2,s3,s4,k1,k2,k3,k4,j1,j2,j3,j4,s5,s6,s7,k5,k6,k7,j5,j6,j7,f1c];rfl;kernel_rfl)
   (apply fqb;simp+decide only[go_sem,c1,f1c]<;>rfl)
 ·obtain rfl:=he h0;have c0:¬(e:Int)=0:=by omega
  have c1:decide (e=0)=false:=f6w h0;simp only[b6c]at hr
  (refine sv Tryz.f27 ?_;simp only[Tryz.f27,gS])
  (repeat first|simp only[ww]|apply xa;simp+decide only[go_sem,hr,c0,s1,s2,s3,s4,k1,k2,k3,k4,j1,j2,j3,j4,s5,s6,s7,k5,k6,k7,j5,j6,j7];rfl;kernel_rfl)
  (apply fqb;simp+decide only[go_sem,c1]<;>rfl)
theorem b2m{d:Bool}{H:a03}{X W:AV}(hX:a36 0 false (a3k (a02 H) 0 12) X=some (.agg [S1,T,V]))(hW:a36 0 false (a3k (a02 H) 0 12) W=some (.islice fr cap)) :
 cl d 27 [.agg [C1,C2,C3,C4],X,W] H=some (.tuple [.bool (decide (e=0)&&decide (aa.length=0)),.int .i64 e],H,List.range H.length):=
 a69 (args:=[.agg [C1,C2,C3,C4],X,W]) (by kernel_rfl) (by kernel_rfl) rfl (f6n (by simp only[a04,(hC C1 (by simp)).1,(hC C2 (by simp)).1,(hC C3 (by simp)).1,(hC C4 (by simp)).1,a0t,f1b]) hX hW) (c7w hC he h) rfl rfl
end
set_option maxHeartbeats 200000000
theorem b6a{x:Cx}{b r:Code}{Q:b02}:sq x (.seq b r) Q=sq x b (sq x r Q):=by funext e F H;cases e<;>rfl
theorem a6y{x:Cx}{b:Code}{P Q:b02}(h:∀e F H,P e F H->Q e F H):∀e F H,sq x b P e F H->sq x b Q e F H:=by
 intro e F H h1;cases e with
 |normal=>exact b3s h1 h
 |exit i=>exact h _ _ _ h1
 |ret=>exact h _ _ _ h1
theorem d0m{x:Cx}{r:Code}{Q:b02}{R:Frm->a03->Prop}(h:∀F H,R F H->Wp x r F H Q):∀e F H,(e = .normal∧R F H)->sq x r Q e F H:=by
 rintro e F H ⟨rfl,h1⟩
 exact h F H h1
def e81(Z C:List AV)(P:List AV)(w:Nat)(F:Frm)(H:a03):Prop:=
 ∃(z c p:Nat) (PV:List AV),a35 F 5 = .ptr z 0 0∧a35 F 7 = .ptr c 0 0∧a35 F 9 = .ptr p 0 0∧a35 F 12 = .int .i64 w∧a02 H z=some (.row 8 [Z])∧a02 H c=some (.row 4 [C])∧a02 H p=some (.row 3 [PV])∧
  (∃a b d:AV,PV=[a,b,d]∧∀x∈PV,x.storable=true∧x.cells=[x]∧x.isJunk=false)∧∀K,a36 0 false (a3k (a02 (H++K)) 0 12) (.agg PV)=some (.agg P)
def c9j(am:Bool)(V:List (List UInt8)):List (List AV):=bif am then spR V else V.map vcR
def c32(am:Bool):List (List UInt8)->a03|[]=>[]|v::r=>[some (.row 3 (c9j am (v::r)))]
def b8l(am:Bool):List (List UInt8)->AV|[]=>.nilslice|v::r=>.islice (c9j am (v::r)) (some (r.length+1))
theorem b46(am:Bool)(V:List (List UInt8)):FlatR (c9j am V):=by
 cases am with
 |false=>exact b0i V
 |true=>
  cases V with
  |nil=>exact FlatR.nil
  |cons v r=>exact FlatR.cons rfl (b0i r)
theorem d5w(am:Bool)(V:List (List UInt8)):(c9j am V).length=V.length:=by cases am<;>cases V<;>simp[c9j,spR]
theorem d34{H:a03}{b k m:Nat}{am:Bool}{V:List (List UInt8)}(hb:a02 H b=some (.row 6 [tmR]))(hv:V≠[]->a02 H (b+1)=some (.row 3 (c9j am V))) :
 a36 0 false (a3k (a02 H) 0 12) (.agg [.islice ((sgs k m).map Sgn.row) (some (k+m)),.slice b 0 1 (some 1),a9w (b+1) V])=some (.agg [.islice ((sgs k m).map Sgn.row) (some (k+m)),.islice [tmR] (some 1),b8l am V]):=by
 have bh:=a0z (m:=0) (d:=a3k (a02 H) 0 11) (b46 am V);have jG:=a0z (m:=0) (d:=a3k (a02 H) 0 11) (aa:=[tmR]) (FlatR.cons rfl FlatR.nil);have dO:=d5w am V;have ia:decide (b<0)=false:=f6w (f8l b);have cO:decide (b+1<0)=false:=f6w (f8l _);generalize a02 H=h at hb hv bh jG;cases V with
 |nil=>simp+decide only[go_sem,a9w,b8l,a46,a3g,hb,ia,a9g,a0j,jG,f6s,f3c,f2j,f1c,f1h,f2u,f2q,f8k,g0o,f2v,f4i]
 |cons v r=>
  have hv:=hv (by simp);have nj:(c9j am (v::r)).take (r.length+1)=c9j am (v::r):=by exact f1k (by rw[dO];simp)
  simp only[f1c]at dO;simp only[a9w,b8l];generalize c9j am (v::r)=RX at hv bh nj dO⊢;simp+decide only[go_sem,a46,a3g,hb,hv,ia,cO,a9g,a0j,jG,bh,nj,dO,f6s,f3c,f2j,f1c,f1h,f2u,f2q,f8k,g0o,f2v,f4i]
theorem d7d{H:a03}{b n k:Nat}{cap:Option Nat}{aa:List (List AV)}(hb:a02 H b=some (.row k aa))(hf:FlatR aa)(hn:aa.length=n):a36 0 false (a3k (a02 H) 0 12) (.slice b 0 n cap)=some (.islice aa cap):=by have bh:=a0z (m:=0) (d:=a3k (a02 H) 0 11) hf;have ia:decide (b<0)=false:=f6w (f8l b);have nj:aa.take n=aa:=f1k (by omega);generalize a02 H=h at hb bh;simp+decide only[go_sem,a46,a3g,hb,ia,a9g,a0j,bh,nj,hn,f6s,f2u,f2q,f8k,g0o,f2v,f4i]
theorem b7l(jC:∀H,cl false 12 [] H=some (.bool true,H,[]))
 (C1 C2 C3 C4:AV)(hC:∀x∈[C1,C2,C3,C4],refs x=[]∧x.storable=true∧x.cells=[x]∧x.isJunk=false)(x y:CX)
 (jB:∀(d:Bool) (H:a03),cl d 10 [.agg x.enc] H=some (.agg [C1,C2,C3,C4],H,[]))
 (c:Cir)(bX:∀(d:Bool) (H:a03),cl d 15 [.agg y.enc] H=some (.agg c.enc,H,[]))
 (pr:Rep)(ps:List Pat)(bU:ps.length<=8)(A:List (Rep×List Nat))(bw:∀(d:Bool) (H:a03),cl d 16 [.agg c.enc,sl pr (ps.map Pat.enc)] H=some (sl none (A.map vlR),H,[]))
 (k m:Nat)(V:List (List UInt8))(X0 X1 X2 X3:Option AObj)(iM:∀(d:Bool) (H:a03),cl d 25 [.agg c.enc,sl none (A.map vlR)] H =
  some (.tuple [.agg (c7v (H.length+4) (sgs k m) V),.int .i64 0],H++([X0.map (a0g (a1d [] H.length)),X1.map (a0g (a1d [] H.length)),X2.map (a0g (a1d [] H.length)),X3.map (a0g (a1d [] H.length)),some (.row 6 [tmR])]++c9u V),[]))
 (rJ:k+m<=1000)(md val:Nat)(nd pin be:Int)(eN am:Bool)(SV:AV)(w0 w:Nat)(eA:∀(d:Bool) (H:a03),cl d 11 [.agg [C1,C2,C3,C4]] H=some (.tuple [SV,.int .i64 w0],H,[]))
 (pU:(w0=7∧w=7)∨(w0=0∧eN=true∧w=3)∨
  (w0=0∧eN=false∧∃e:Nat,(∀(d:Bool) (H:a03),cl d 21 [.agg [C1,C2,C3,C4],.agg (fb md nd pin val be)] H=some (.int .i64 e,H,[]))∧e≠0∧w=e)∨
  (w0=0∧eN=false∧(∀(d:Bool) (H:a03),cl d 21 [.agg [C1,C2,C3,C4],.agg (fb md nd pin val be)] H=some (.int .i64 0,H,[]))∧∃e:Nat,sM 18 [.agg [.islice ((sgs k m).map Sgn.row) (some (k+m)),.islice [tmR] (some 1),b8l am V]] []=some (.int .i64 e,[])∧e≠0∧w=e)∨
  (w0=0∧eN=false∧(∀(d:Bool) (H:a03),cl d 21 [.agg [C1,C2,C3,C4],.agg (fb md nd pin val be)] H=some (.int .i64 0,H,[]))∧sM 18 [.agg [.islice ((sgs k m).map Sgn.row) (some (k+m)),.islice [tmR] (some 1),b8l am V]] []=some (.int .i64 0,[])∧
   ∃k2 m2:Nat,SV = .islice ((sgs k2 m2).map Sgn.row) (some (k2+m2))∧((sgs k2 m2=sgs k m∧w=0)∨(sgs k2 m2≠sgs k m∧w=8))))
 (ae:∀cap,(eN=false->cap=some 1)->∃aa,(w≠0->aa=[])∧e51 [C1,C2,C3,C4] [.islice ((sgs k m).map Sgn.row) (some (k+m)),.islice [tmR] (some 1),b8l am V] (bif eN then[fb md nd pin val be,[.int .u8 md,.int .i64 nd,.int .i64 pin,.int .u8 val,.int .i64 be]]else[fb md nd pin val be]) cap aa w) :
 sM 8 [.agg x.enc,.agg y.enc,.agg [sl pr (ps.map Pat.enc),.int .u8 md,.int .i64 nd,.int .i64 pin,.int .u8 val,.int .i64 be,.bool eN,.bool am]] []=some (.bool true,[]):=by
 have d0:¬((8:Int)<ps.length):=by omega
 obtain⟨r1,s1,k1,j1⟩:=hC C1 (by simp);obtain⟨r2,s2,k2,j2⟩:=hC C2 (by simp);obtain⟨r3,s3,k3,j3⟩:=hC C3 (by simp);obtain⟨r4,s4,k4,j4⟩:=hC C4 (by simp);have cY:=a30 k m;unfold c7v at iM;rw[cY]at iM;simp only[Cir.enc,CX.enc]at bX bw jB iM⊢
 (refine sv Tryz.f8 ?_;simp only[Tryz.f8,gS])
 (repeat first|simp only[ww]|apply xa;simp+decide only[go_sem,jB,bX,bw,d0,s1,s2,s3,s4,k1,k2,k3,k4,j1,j2,j3,j4,c10];rfl;kernel_rfl)
 rw[b6a,b6a,b6a];refine b3s (Q:=sq _ _ (sq _ _ (sq _ _ λe F1 H1=>e = .normal∧(a35 F1 5 = .ptr 2 0 0∧a35 F1 7 = .ptr 3 0 0∧a35 F1 9 = .ptr (10+(c32 am V).length) 0 0∧∃B0 B1 B4 Y0 Y1 Y2 Y3:Option AObj,H1=[B0,B1,some (.row 8 [[sl pr (ps.map Pat.enc),.int .u8 md,.int .i64 nd,.int .i64 pin,.int .u8 val,.int .i64 be,.bool eN,.bool am]]),some (.row 4 [[C1,C2,C3,C4]]),B4,Y0,Y1,Y2,Y3,some (.row 6 [tmR])]++c32 am V++[some (.row 3 [[.islice ((sgs k m).map Sgn.row) (some (k+m)),.slice 9 0 1 (some 1),a9w 10 V]])])))) ?_ (a6y (a6y (a6y (d0m ?_))))
 ·cases V with
  |nil=>
   have jX:∀b,a9w b [] = .nilslice:=λ_=>rfl;have n7:c9u []=[]:=rfl;simp only[jX,n7]at iM;cases am<;>(repeat first|simp only[ww]|apply xa;simp+decide only[go_sem,bX,bw,iM,s1,s2,s3,s4,k1,k2,k3,k4,j1,j2,j3,j4,c10];rfl;kernel_rfl)
   all_goals exact⟨trivial,rfl,rfl,rfl,_,_,_,_,_,_,_,rfl⟩
  |cons v r=>
   have jX:∀b,a9w b (v::r) = .slice b 0 (r.length+1) (some (r.length+1)):=λ_=>rfl;have n7:c9u (v::r)=[some (.row 3 ([.int .i64 0,.str v,.int .i64 1]::r.map vcR))]:=rfl;have c2:(0:Int)<((r.length+1:Nat):Int):=by omega
   simp only[jX,n7]at iM;cases am<;>(repeat first|simp only[ww]|apply xa;simp+decide only[go_sem,bX,bw,iM,s1,s2,s3,s4,k1,k2,k3,k4,j1,j2,j3,j4,c10,c2];rfl;kernel_rfl)
   all_goals exact⟨trivial,rfl,rfl,rfl,_,_,_,_,_,_,_,rfl⟩
 ·rintro F1 H1 ⟨f5,f7,f9,B0,B1,B4,Y0,Y1,Y2,Y3,hH⟩
  have h2:a02 H1 2=some (.row 8 [[sl pr (ps.map Pat.enc),.int .u8 md,.int .i64 nd,.int .i64 pin,.int .u8 val,.int .i64 be,.bool eN,.bool am]]):=by rw[hH];rfl
  have h3:a02 H1 3=some (.row 4 [[C1,C2,C3,C4]]):=by rw[hH];rfl
  have hp:a02 H1 (10+(c32 am V).length)=some (.row 3 [[.islice ((sgs k m).map Sgn.row) (some (k+m)),.slice 9 0 1 (some 1),a9w 10 V]]):=by rw[hH];cases V<;>rfl
  have qe:∀b,∃x y z:AV,[.islice ((sgs k m).map Sgn.row) (some (k+m)),.slice b 0 1 (some 1),a9w (b+1) V]=[x,y,z]∧∀w∈[.islice ((sgs k m).map Sgn.row) (some (k+m)),.slice b 0 1 (some 1),a9w (b+1) V],w.storable=true∧w.cells=[w]∧w.isJunk=false:=by
   intro b;refine⟨_,_,_,rfl,λw hw=>?_⟩;simp only[f4h,g0k,or_false]at hw;rcases hw with rfl|rfl|rfl
   ·exact⟨rfl,rfl,rfl⟩
   ·exact⟨rfl,rfl,rfl⟩
   ·cases V<;>exact⟨rfl,rfl,rfl⟩
  have jF:∀K,a36 0 false (a3k (a02 (H1++K)) 0 12) (.agg [.islice ((sgs k m).map Sgn.row) (some (k+m)),.slice 9 0 1 (some 1),a9w 10 V])=some (.agg [.islice ((sgs k m).map Sgn.row) (some (k+m)),.islice [tmR] (some 1),b8l am V]):=by
   intro K;refine d34 (by rw[hH];rfl) λaw=>?_;rw[hH];cases V with
   |nil=>exact absurd rfl aw
   |cons v r=>rfl
  have nt:=jF [];rw[f1b]at nt;rw[ww.2.2.2.2.1,b6a,b6a,b6a,b6a,b6a,b6a,b6a];refine b3s (Q:=sq _ _ (sq _ _ (sq _ _ (sq _ _ (sq _ _ (sq _ _ (sq _ _ λe F2 H2=>e = .normal∧e81 [sl pr (ps.map Pat.enc),.int .u8 md,.int .i64 nd,.int .i64 pin,.int .u8 val,.int .i64 be,.bool eN,.bool am] [C1,C2,C3,C4] [.islice ((sgs k m).map Sgn.row) (some (k+m)),.islice [tmR] (some 1),b8l am V] w F2 H2))))))) ?_ (a6y (a6y (a6y (a6y (a6y (a6y (a6y (d0m ?_))))))))
  ·rcases pU with ⟨rfl,rfl⟩|⟨rfl,rfl,rfl⟩|⟨rfl,rfl,e,aR,he,rfl⟩|⟨rfl,rfl,aR,e,jq,he,rfl⟩|⟨rfl,rfl,aR,jq,ka,ma,rfl,o6⟩
   ·(repeat first|simp only[ww]|apply xa;simp+decide only[go_sem,f5,f7,f9,h2,h3,hp,eA,s1,s2,s3,s4,k1,k2,k3,k4,j1,j2,j3,j4];rfl;kernel_rfl)
    exact⟨trivial,2,3,_,_,by simp+decide only[go_sem,f5],by simp+decide only[go_sem,f7],by simp+decide only[go_sem,f9],by first|rfl|simp+decide only[go_sem],h2,h3,hp,qe 9,jF⟩
   ·(repeat first|simp only[ww]|apply xa;simp+decide only[go_sem,f5,f7,f9,h2,h3,hp,eA,s1,s2,s3,s4,k1,k2,k3,k4,j1,j2,j3,j4];rfl;kernel_rfl)
    exact⟨trivial,2,3,_,_,by simp+decide only[go_sem,f5],by simp+decide only[go_sem,f7],by simp+decide only[go_sem,f9],by first|rfl|simp+decide only[go_sem],h2,h3,hp,qe 9,jF⟩
   ·have c1:¬(w:Int)=0:=by omega
    (repeat first|simp only[ww]|apply xa;simp+decide only[go_sem,f5,f7,f9,h2,h3,hp,eA,aR,c1,s1,s2,s3,s4,k1,k2,k3,k4,j1,j2,j3,j4];rfl;kernel_rfl)
    exact⟨trivial,2,3,_,_,by simp+decide only[go_sem,f5],by simp+decide only[go_sem,f7],by simp+decide only[go_sem,f9],by first|rfl|simp+decide only[go_sem],h2,h3,hp,qe 9,jF⟩
   ·have oh:=λ(d:Bool)=>a9r (d:=d) nt jq;have c1:¬(w:Int)=0:=by omega
    (repeat first|simp only[ww]|apply xa;simp+decide only[go_sem,f5,f7,f9,h2,h3,hp,eA,aR,oh,c1,s1,s2,s3,s4,k1,k2,k3,k4,j1,j2,j3,j4];rfl;kernel_rfl)
    exact⟨trivial,2,3,_,_,by simp+decide only[go_sem,f5],by simp+decide only[go_sem,f7],by simp+decide only[go_sem,f9],by first|rfl|simp+decide only[go_sem],h2,h3,hp,qe 9,jF⟩
   ·have oh:=λ(d:Bool)=>a9r (d:=d) nt jq;have eT:=a30 ka ma;have gA:(a9w 10 V).storable=true:=by cases V<;>rfl
    have gB:(a9w 10 V).cells=[a9w 10 V]:=by cases V<;>rfl
    have iU:(a9w 10 V).isJunk=false:=by cases V<;>rfl
    (repeat first|simp only[ww]|apply xa;simp+decide only[go_sem,f5,f7,f9,h2,h3,hp,eA,aR,oh,gA,gB,iU,cY,eT,s1,s2,s3,s4,k1,k2,k3,k4,j1,j2,j3,j4,c10];rfl;kernel_rfl)
    have cO:decide (((ka+ma:Nat):Int)=((k+m:Nat):Int))=true->ka+ma=k+m:=λh=>by have:=of_decide_eq_true h;omega
    have em:decide (((ka+ma:Nat):Int)=((k+m:Nat):Int))=false->sgs ka ma≠sgs k m:=λh e=>by have h1:=of_decide_eq_false h;have h2:=congrArg List.length e;rw[cY,eT]at h2;omega
    generalize decide (((ka+ma:Nat):Int)=((k+m:Nat):Int))=b0 at cO em⊢;have n1:=λπ=>a0b π _ r1;have n2:=λπ=>a0b π _ r2;have n3:=λπ=>a0b π _ r3;have n4:=λπ=>a0b π _ r4;have oC:=a06 (b46 am V);have oD:=λπ=>a05 π (b46 am V);have rS:∀K,a36 0 false (a3k (a02 ([some (.row 8 [[sl pr (ps.map Pat.enc),.int .u8 md,.int .i64 nd,.int .i64 pin,.int .u8 val,.int .i64 be,.bool false,.bool am]]),some (.row 4 [[C1,C2,C3,C4]]),some (.row 3 [[.islice ((sgs k m).map Sgn.row) (some (k+m)),.slice 3 0 1 (some 1),a9w 4 V]]),some (.row 6 [tmR])]++c32 am V++K)) 0 12) (.agg [.islice ((sgs k m).map Sgn.row) (some (k+m)),.slice 3 0 1 (some 1),a9w 4 V])=some (.agg [.islice ((sgs k m).map Sgn.row) (some (k+m)),.islice [tmR] (some 1),b8l am V]):=λK=>
     d34 (b:=3) rfl λaw=>by
      cases V with
      |nil=>exact absurd rfl aw
      |cons v r=>rfl
    have vo:(a9w 4 V).storable=true:=by cases V<;>rfl
    have vq:(a9w 4 V).cells=[a9w 4 V]:=by cases V<;>rfl
    have vp:(a9w 4 V).isJunk=false:=by cases V<;>rfl
    subst hH;refine a0m (σ:=Nat×Bool) kp8_0 (λs=>[(5,.ptr 0 0 0),(7,.ptr 1 0 0),(9,.ptr 2 0 0),(11,.islice ((sgs ka ma).map Sgn.row) (some (ka+ma))),(12,.int .i64 0),(13,.bool s.2),(14,.int .i64 s.1)])
     (λ_=>[some (.row 8 [[sl pr (ps.map Pat.enc),.int .u8 md,.int .i64 nd,.int .i64 pin,.int .u8 val,.int .i64 be,.bool false,.bool am]]),some (.row 4 [[C1,C2,C3,C4]]),some (.row 3 [[.islice ((sgs k m).map Sgn.row) (some (k+m)),.slice 3 0 1 (some 1),a9w 4 V]]),some (.row 6 [tmR])]++c32 am V) (λs=>bif s.2 then ka+ma+1-s.1 else 0)
     (λs=>(s.2=true->ka+ma=k+m∧s.1<=ka+ma∧∀j,j<s.1->(sgs ka ma)[j]?=(sgs k m)[j]?)∧(s.2=false->sgs ka ma≠sgs k m)) (0,b0) ?_ ⟨λh=>⟨cO h,f2i _,λj hj=>absurd hj (f8l j)⟩,em⟩ ?_
    ·cases V with
     |nil=>(simp+decide only[go_sem,a01,a00,f5,f7,f9,n1,n2,n3,n4,r1,r2,r3,r4,tmR,c32,a9w,f2o,f1e,f1b,f1h,f8z]<;>rfl)
     |cons v r=>
      simp only[c32];generalize c9j am (v::r)=RX at oC oD⊢
      (simp+decide only[go_sem,a01,a00,f5,f7,f9,n1,n2,n3,n4,r1,r2,r3,r4,oC,oD,tmR,c32,a9w,f2o,f1e,f1b,f1c,f1h]<;>rfl)
    ·rintro⟨i,b⟩ ⟨qD,pJ⟩
     have fin:∀(F3:Frm) (H3:a03) (w:Nat),H3=[some (.row 8 [[sl pr (ps.map Pat.enc),.int .u8 md,.int .i64 nd,.int .i64 pin,.int .u8 val,.int .i64 be,.bool false,.bool am]]),some (.row 4 [[C1,C2,C3,C4]]),some (.row 3 [[.islice ((sgs k m).map Sgn.row) (some (k+m)),.slice 3 0 1 (some 1),a9w 4 V]]),some (.row 6 [tmR])]++c32 am V->a35 F3 5 = .ptr 0 0 0->a35 F3 7 = .ptr 1 0 0->a35 F3 9 = .ptr 2 0 0->a35 F3 12 = .int .i64 w->e81 [sl pr (ps.map Pat.enc),.int .u8 md,.int .i64 nd,.int .i64 pin,.int .u8 val,.int .i64 be,.bool false,.bool am] [C1,C2,C3,C4] [.islice ((sgs k m).map Sgn.row) (some (k+m)),.islice [tmR] (some 1),b8l am V] w F3 H3:=by intro F3 H3 w e1 e2 e3 e4 e5;subst e1;exact⟨0,1,2,_,e2,e3,e4,e5,rfl,rfl,rfl,qe 3,rS⟩
     by_cases ai:i<ka+ma
     ·have d1:(i:Int)<((ka+ma:Nat):Int):=by omega
      cases b with
      |true=>
       obtain⟨e1,e2,e3⟩:=qD rfl;obtain⟨sa,ha⟩:∃s,(sgs ka ma)[i]?=some s:=⟨_,z9e (by omega)⟩
       obtain⟨sb,hb⟩:∃s,(sgs k m)[i]?=some s:=⟨_,z9e (by omega)⟩
       have i8:sa.row=[.str sa.nm,.int .u8 sa.dir]:=rfl;have uD:sb.row=[.str sb.nm,.int .u8 sb.dir]:=rfl;have l1:i<(sgs ka ma).length:=by omega
       have l2:i<(sgs k m).length:=by omega
       have aS:=wI1 (n:=i) (by omega);by_cases hs:sa=sb
       ·subst hs;have q1:(sa.nm==sa.nm)=true:=beq_self_eq_true _;have q2:((sa.dir:Int)==(sa.dir:Int))=true:=beq_self_eq_true _
        (repeat first|simp only[ww]|apply xa;simp+decide only[go_sem,d1,ha,hb,i8,l1,l2,q1,q2,f7h,aS,cY,eT,c10];rfl;kernel_rfl)
        refine a1m (i+1,true) ?_ (by simp only[f2v];omega) ⟨λ_=>⟨e1,ai,λj hj=>?_⟩,λh=>by cases h⟩
        ·(cases V with|nil=>((simp+decide only[go_sem,a01,a00,n1,n2,n3,n4,r1,r2,r3,r4,tmR,c32,a9w,f2o,f1e,f1b]<;>rfl))|cons v r=>(simp only[c32];generalize c9j am (v::r)=RX at oC oD⊢;(simp+decide only[go_sem,a01,a00,n1,n2,n3,n4,r1,r2,r3,r4,oC,oD,tmR,c32,a9w,f2o,f1e,f1b]<;>rfl)))
        ·by_cases qC:j<i
         ·exact e3 j qC
         ·obtain rfl:j=i:=by omega
          rw[ha,hb]
       ·have hq:(sa.nm==sb.nm&&(sa.dir:Int)==(sb.dir:Int))=false:=by
         obtain⟨n1,d1⟩:=sa;obtain⟨n2,d2⟩:=sb;cases h:(n1==n2&&(d1:Int)==(d2:Int))with
         |false=>rfl
         |true=>rw[f1d,f7u,f7u]at h;obtain⟨rfl,h⟩:=h;exact absurd (by rw[show d1=d2 by omega]) hs
        (repeat first|simp only[ww]|apply xa;simp+decide only[go_sem,d1,ha,hb,i8,uD,l1,l2,hq,aS,cY,eT,c10];rfl;kernel_rfl)
        refine a1m (i+1,false) ?_ (by simp only[f2v,f4i];omega) ⟨(λh=>by cases h),λ_ e=>hs (by rw[e,hb]at ha;exact(z9o ha).symm)⟩
        (cases V with|nil=>((simp+decide only[go_sem,a01,a00,n1,n2,n3,n4,r1,r2,r3,r4,tmR,c32,a9w,f2o,f1e,f1b]<;>rfl))|cons v r=>(simp only[c32];generalize c9j am (v::r)=RX at oC oD⊢;(simp+decide only[go_sem,a01,a00,n1,n2,n3,n4,r1,r2,r3,r4,oC,oD,tmR,c32,a9w,f2o,f1e,f1b]<;>rfl)))
      |false=>
       obtain⟨e4,rfl⟩|⟨_,rfl⟩:=o6
       ·exact absurd e4 (pJ rfl)
       (repeat first|simp only[ww]|apply xa;simp+decide only[go_sem,d1,cY,eT,c10];rfl;kernel_rfl)
       exact⟨trivial,fin _ _ _ rfl rfl rfl rfl rfl⟩
     ·have d1:¬(i:Int)<((ka+ma:Nat):Int):=by omega
      cases b with
      |true=>
       obtain⟨e1,e2,e3⟩:=qD rfl;have e4:sgs ka ma=sgs k m:=f4x λj=>by
        by_cases hj:j<i
        ·exact e3 j hj
        ·rw[f2s (by omega),f2s (by omega)]
       obtain⟨_,rfl⟩|⟨e5,_⟩:=o6
       ·(repeat first|simp only[ww]|apply xa;simp+decide only[go_sem,d1,cY,eT,c10];rfl;kernel_rfl)
        exact⟨trivial,fin _ _ _ rfl rfl rfl rfl rfl⟩
       ·exact absurd e4 e5
      |false=>
       obtain⟨e4,rfl⟩|⟨_,rfl⟩:=o6
       ·exact absurd e4 (pJ rfl)
       (repeat first|simp only[ww]|apply xa;simp+decide only[go_sem,d1,cY,eT,c10];rfl;kernel_rfl)
       exact⟨trivial,fin _ _ _ rfl rfl rfl rfl rfl⟩
  ·rintro F2 H2 ⟨z,cc,p,PV,g5,g7,g9,qm,hz,cW,cB,⟨u1,u2,u3,rfl,hU⟩,lK⟩
   obtain⟨a1,b1,c1⟩:=hU u1 (by simp);obtain⟨a2,b2,c2⟩:=hU u2 (by simp);obtain⟨a3,b3,c3⟩:=hU u3 (by simp);have lz:=a1i hz;have lc:=a1i cW;have lp:=a1i cB;have uf:a0d [C1,C2,C3,C4]=[]:=by simp only[a04,r1,r2,r3,r4,a0t,f1b]
   have ue:∀x∈[C1,C2,C3,C4,.islice ((sgs k m).map Sgn.row) (some (k+m)),AV.islice [tmR] (some 1),b8l am V],refs x=[]∧x.storable=true∧x.cells=[x]∧x.isJunk=false:=by
    intro x hx;simp only[f4h,g0k,or_false]at hx;rcases hx with rfl|rfl|rfl|rfl|rfl|rfl|rfl
    ·exact hC _ (by simp)
    ·exact hC _ (by simp)
    ·exact hC _ (by simp)
    ·exact hC _ (by simp)
    ·exact⟨rfl,rfl,rfl,rfl⟩
    ·exact⟨rfl,rfl,rfl,rfl⟩
    ·cases V<;>exact⟨rfl,rfl,rfl,rfl⟩
   cases eN with
   |false=>
    obtain⟨aa,he,hR⟩:=ae (some 1) (λ_=>rfl);have hW:=d7d (H:=H2++[some (.row 5 [fb md nd pin val be])]) (b:=H2.length) (n:=1) (cap:=some 1) (aa:=[fb md nd pin val be]) (heapF_hi0.trans rfl) (FlatR.cons rfl FlatR.nil) rfl;have dM:=λ(d:Bool)=>b45 (d:=d) hR uf (lK _) hW;have dw:=λ(d:Bool)=>b2m (d:=d) ue he hR (lK _) hW;by_cases hw:w=0
    ·subst hw;obtain⟨M,hM⟩:∃M,b6c aa=M:=⟨_,rfl⟩
     rw[hM]at dM
     (repeat first|simp only[ww]|apply xa;simp+decide only[go_sem,g5,g7,g9,qm,hz,cW,cB,lz,lc,lp,dM,dw,jC,heapF_hi0,a3y,a43,a5k,a1,a2,a3,b1,b2,b3,c1,c2,c3,s1,s2,s3,s4,k1,k2,k3,k4,j1,j2,j3,j4];rfl;kernel_rfl)
     (apply fqb;simp+decide only[go_sem]<;>rfl)
    ·obtain rfl:=he hw;have c0:¬(w:Int)=0:=by omega
     simp only[b6c,hw,g0o,Bool.false_and]at dM dw
     (repeat first|simp only[ww]|apply xa;simp+decide only[go_sem,g5,g7,g9,qm,hz,cW,cB,lz,lc,lp,dM,dw,jC,c0,heapF_hi0,a3y,a43,a5k,a1,a2,a3,b1,b2,b3,c1,c2,c3,s1,s2,s3,s4,k1,k2,k3,k4,j1,j2,j3,j4];rfl;kernel_rfl)
     (apply fqb;simp+decide only[go_sem]<;>rfl)
   |true=>
    obtain⟨aa,he,hR⟩:=ae none (λh=>by cases h)
    (repeat first|simp only[ww]|apply xa;simp+decide only[go_sem,g5,g7,g9,qm,hz,cW,cB,lz,lc,lp,jC,heapF_hi0,a3y,a43,a5k,a1,a2,a3,b1,b2,b3,c1,c2,c3,s1,s2,s3,s4,k1,k2,k3,k4,j1,j2,j3,j4];rfl;kernel_rfl)
    have e3:∀a b c:Option AObj,H2++[a]++[b]++[c]=H2++[a,b,c]:=λa b c=>by simp
    have x3:∀(q:Nat) (o:AObj),a02 H2 q=some o->∀a b c:Option AObj,a02 (H2++[a]++[b]++[c]) q=some o:=λq o h a b c=>by rw[e3,a3y (eq_true (a1i h))];exact h
    have sV:=x3 _ _ cW;have sU:=x3 _ _ cB;have x1:∀a b:Option AObj,a02 (H2++[a]++[b]) (H2.length+1)=b:=λa b=>by rw[show H2++[a]++[b]=H2++[a,b] by simp,a5l 1];rfl
    have x0:∀a b:Option AObj,a02 (H2++[a]++[b]) H2.length=a:=λa b=>by rw[show H2++[a]++[b]=H2++[a,b] by simp,heapF_hi0];rfl
    have hW:=d7d (H:=H2++[some (.row 5 [fb md nd pin val be])]++[some (.row 5 [fb md nd pin val be])]++[some (.row 5 [fb md nd pin val be,[.int .u8 md,.int .i64 nd,.int .i64 pin,.int .u8 val,.int .i64 be]])]) (b:=H2.length+1+1) (n:=2) (cap:=none) (aa:=[fb md nd pin val be,[.int .u8 md,.int .i64 nd,.int .i64 pin,.int .u8 val,.int .i64 be]]) (by rw[e3,show H2.length+1+1=H2.length+2 from rfl,a5l 2];rfl) (FlatR.cons rfl (FlatR.cons rfl FlatR.nil)) rfl;have dM:=λ(d:Bool)=>b45 (d:=d) hR uf (by rw[e3];exact lK _) hW;have dw:=λ(d:Bool)=>b2m (d:=d) ue he hR (by rw[e3];exact lK _) hW;by_cases hw:w=0
    ·subst hw;obtain⟨M,hM⟩:∃M,b6c aa=M:=⟨_,rfl⟩
     rw[hM]at dM
     (repeat first|simp only[ww]|apply xa;simp+decide only[go_sem,g5,g7,g9,qm,hz,cW,cB,lz,lc,lp,dM,dw,jC,x0,x1,sV,sU,heapF_hi0,a3y,f2n,a43,a5k,a1,a2,a3,b1,b2,b3,c1,c2,c3,s1,s2,s3,s4,k1,k2,k3,k4,j1,j2,j3,j4];rfl;kernel_rfl)
     (apply fqb;simp+decide only[go_sem]<;>rfl)
    ·obtain rfl:=he hw;have c0:¬(w:Int)=0:=by omega
     simp only[b6c,hw,g0o,Bool.false_and]at dM dw
     (repeat first|simp only[ww]|apply xa;simp+decide only[go_sem,g5,g7,g9,qm,hz,cW,cB,lz,lc,lp,dM,dw,jC,c0,x0,x1,sV,sU,heapF_hi0,a3y,f2n,a43,a5k,a1,a2,a3,b1,b2,b3,c1,c2,c3,s1,s2,s3,s4,k1,k2,k3,k4,j1,j2,j3,j4];rfl;kernel_rfl)
     (apply fqb;simp+decide only[go_sem]<;>rfl)
def d4q(md val:Nat)(nd pin be:Int):Prop:=
 ∀(c:Cir) (hc:c.wf) {k m:Nat} (ht:Tio c k m) (A:List (Rep×List Nat)) (gp:A.length<=8) (hA:∀a∈A,a.2.length=k∧∀v∈a.2,v<=3) (VS:List (List UInt8)) (WA:Nat->List Nat) (dD:VS.length=A.length) (dV:∀i a,A[i]?=some a->VS[i]?=some (cyc a.2 (WA i))) (iy:∀i,i<A.length->(WA i).length=m) (ii:∀i,i<A.length->∀w∈WA i,w<=3) (dW:∀s∈VS,VecOk (sgs k m) s),
  f3s c.nodes md val nd pin be->∃aa,e51 c.enc (b67 (sgs k m) VS) [fb md nd pin val be] (some 1) aa 0
theorem e0k(k m:Nat):(sgs k m).countP (λs=>s.dir==0)=k:=by unfold sgs;rw[List.countP_append,List.countP_map,List.countP_map];simp[sgI,sgO,Function.comp_def]
theorem e0j{k m k' m':Nat}(h:sgs k m=sgs k' m'):k=k'∧m=m':=by have h1:=congrArg (λl=>l.countP (λs=>s.dir==0)) h;have h2:=congrArg List.length h;simp only[e0k]at h1;rw[a30,a30]at h2;omega
theorem b1j(r:Rep)(aa:List (List AV)):refs (sl r aa)=[]∧(sl r aa).storable=true∧(sl r aa).cells=[sl r aa]∧(sl r aa).isJunk=false:=by refine⟨a16 _ _,?_⟩;rcases r with _|_|_<;>cases aa<;>exact⟨rfl,rfl,rfl⟩
theorem c9v(am:Bool)(V:List (List UInt8)):refs (b8l am V)=[]∧(b8l am V).storable=true∧(b8l am V).cells=[b8l am V]∧(b8l am V).isJunk=false:=by cases V<;>exact⟨rfl,rfl,rfl,rfl⟩
theorem e03(am:Bool)(V:List (List UInt8))(h:am=false∨V=[]):b8l am V=c0q V:=by
 rcases h with rfl|rfl
 ·cases V<;>rfl
 ·rfl
theorem c1s(jC:∀H,cl false 12 [] H=some (.bool true,H,[]))
 (x y:CX)(hx:x.ok)(hy:y.ok)(hp:Ports x)(pr:Rep)(ps:List Pat)(jp:∀p∈ps,PxOk p)(uG:ps.length<9223372036854775808)(md val:Nat)(nd pin be:Int)(eN am:Bool)(lx:d4q md val nd pin be) :
 sM 8 [.agg x.enc,.agg y.enc,.agg [sl pr (ps.map Pat.enc),.int .u8 md,.int .i64 nd,.int .i64 pin,.int .u8 val,.int .i64 be,.bool eN,.bool am]] []=some (.bool true,[]):=by
 by_cases bU:ps.length<=8
 ·have bX:=λ(d:Bool) (H:a03)=>c8d (d:=d) H y hy;have ht:=d8s y;have hc:(a7a y).cir.wf:=CX.wf _;obtain⟨ord,aH⟩:=d1f _ hc;have lG:=ht.ins;generalize(a7a y).cir=c at bX ht hc aH lG;generalize(a7a y).k=k at ht lG;generalize(a7a y).outN.length=m at ht;obtain⟨qs,uF,uE,bw⟩:=d75 c hc pr ps jp bU;have bH:(kinds c.nodes 0).length=k:=by rw[lG];simp
  obtain⟨A,sO⟩:∃A:List (Rep×List Nat),A=qs.map λq=>(q.ic,q.ins):=⟨_,rfl⟩
  have gp:A.length=ps.length:=by rw[sO,c10,uF]
  have vC:qs.map inR=A.map vlR:=by rw[sO,f7c];rfl
  have hA:∀a∈A,a.2.length=k∧∀v∈a.2,v<=3:=λa ha=>by rw[sO]at ha;obtain⟨q,hq,rfl⟩:=f6q.1 ha;have:=uE q hq;exact⟨by rw[<-bH];exact this.1,this.3⟩
  rw[vC]at bw;obtain⟨X0,X1,X2,X3,iM⟩:=d2x c hc ht ord aH none A (by omega) hA;have dW:=e54 c ht ord A hA;have dD:(gdC c ord A).length=A.length:=b9v (c3u c ord A).symm;have dV:∀i a,A[i]?=some a->(gdC c ord A)[i]?=some (cyc a.2 (ouA c ord A i)):=λi a ha=>b9w ha (d1b c ord A (f1i.1 ha).1);have iy:∀i,i<A.length->(ouA c ord A i).length=m:=λi _=>by unfold ouA;rw[a79,ht.out]
  have ii:∀i,i<A.length->∀w∈ouA c ord A i,w<=3:=λi hi=>d1c c ord A (λv hv=>by rw[a5a (z9e hi)]at hv;exact(hA _ (g0l hi)).2 v hv);generalize gdC c ord A=V at iM dW dD dV;generalize ouA c ord A=WA at dV iy ii;obtain⟨_,t1,t2,_,t3,t4⟩:=ht;have cY:=a30 k m;have rJ:k+m<=1000:=by omega
  obtain⟨v1,v2,v3,v4⟩:=c9v am V;cases hm:x.mem with
  |true=>
   have jB:=λ(d:Bool) (H:a03)=>d6c (d:=d) H x hx hp hm;have td:=CX.wfM x;have eA:=λ(d:Bool) (H:a03)=>b0s (d:=d) H x.cirM x.memA td;refine b7l jC _ _ _ _ ?_ x y jB c bX pr ps bU A bw k m V X0 X1 X2 X3 iM rJ md val nd pin be eN am .nilslice 7 7 eA (.inl ⟨rfl,rfl⟩) λcap _=>⟨[],λ_=>rfl,b0u (e0q x.cirM x.memA td _ _ rfl rfl rfl rfl v1 v2 v3 v4 _ cap)⟩
   intro z hz;simp only[a2x,a8s,f4h,g0k,or_false]at hz;rcases hz with rfl|rfl|rfl|rfl
   ·exact b1j _ _
   ·exact b1j _ _
   ·exact⟨rfl,rfl,rfl,rfl⟩
   ·exact b1j _ _
  |false=>
   have jB:=λ(d:Bool) (H:a03)=>d1g (d:=d) H x hx hm;have dc:x.cir.wf:=CX.wf x;have j0:Tio x.cir (a7a x).k (a7a x).outN.length:=d8s x;generalize x.cir=c1 at jB dc j0;generalize(a7a x).k=ka at j0;generalize(a7a x).outN.length=ma at j0;have eA:=λ(d:Bool) (H:a03)=>a3l (d:=d) H c1 dc j0;have hC:∀z∈c1.enc,refs z=[]∧z.storable=true∧z.cells=[z]∧z.isJunk=false:=by
    intro z hz;simp only[Cir.enc,f4h,g0k,or_false]at hz;rcases hz with rfl|rfl|rfl|rfl
    ·exact b1j _ _
    ·exact b1j _ _
    ·exact⟨rfl,rfl,rfl,rfl⟩
    ·exact b1j _ _
   obtain⟨e,iN,aR⟩:=c2a c1 dc md val nd pin be;have kK:=b7l jC _ _ _ _ hC x y jB c bX pr ps bU A bw k m V X0 X1 X2 X3 iM rJ md val nd pin be;cases eN with
   |true=>exact kK true am _ 0 3 eA (.inr (.inl ⟨rfl,rfl,rfl⟩)) λcap _=>⟨[],λ_=>rfl,b0u (e0x c1 dc j0 _ _ rfl rfl rfl rfl v1 v2 v3 v4 _ rfl cap)⟩
   |false=>
    by_cases he:e=0
    ·subst he;have iN:=iN rfl;have hb:am=true∧V≠[]∨(am=false∨V=[]):=by
      by_cases h:V=[]
      ·exact .inr (.inr h)
      ·cases am with
       |true=>exact .inl ⟨rfl,h⟩
       |false=>exact .inr (.inl rfl)
     rcases hb with ⟨rfl,aw⟩|hb
     ·have mj:[AV.islice ((sgs k m).map Sgn.row) (some (k+m)),.islice [tmR] (some 1),b8l true V]=e45 (sgs k m) V:=by
       unfold e45;rw[cY];cases V with
       |nil=>exact absurd rfl aw
       |cons v r=>rfl
      have hk0:=c2n t1 t2 t3 t4 (by omega) dW aw;have oU:=λ(d:Bool) (H:a03)=>c2d (d:=d) t1 t2 t3 t4 (by omega) dW aw H;rw[<-mj]at hk0 oU;exact kK false true _ 0 1 eA (.inr (.inr (.inr (.inl ⟨rfl,rfl,aR,1,hk0,by omega,rfl⟩)))) λcap _=>⟨[],λ_=>rfl,b0u (c3p c1 dc j0 _ _ rfl rfl rfl rfl v1 v2 v3 v4 md val nd pin be 0 1 0 false aR (λ_=>oU) (λ_ h=>by cases h) cap 1 (.inr (.inl ⟨rfl,by omega,rfl⟩)))⟩
     ·have mj:[AV.islice ((sgs k m).map Sgn.row) (some (k+m)),.islice [tmR] (some 1),b8l am V]=b67 (sgs k m) V:=by
       unfold b67;rw[cY,e03 am V hb]
      have hk0:=c6n k m t1 t2 t3 t4 V (by omega) dW;have oU:=λ(d:Bool) (H:a03)=>a7v (d:=d) t1 t2 t3 t4 (by omega) dW H;by_cases hs:sgs ka ma=sgs k m
      ·obtain⟨rfl,rfl⟩:=e0j hs;rw[<-mj]at hk0;obtain⟨aa,hr⟩:=lx c1 dc j0 A (by omega) hA V WA dD dV iy ii dW iN;rw[<-mj]at hr;exact kK false am _ 0 0 eA (.inr (.inr (.inr (.inr ⟨rfl,rfl,aR,hk0,ka,ma,rfl,.inl ⟨rfl,rfl⟩⟩)))) λcap aY=>⟨aa,λh=>absurd rfl h,by rw[aY rfl];exact hr⟩
      ·obtain⟨_,u1,u2,_,u3,u4⟩:=j0;have j0:Tio c1 ka ma:=⟨by assumption,u1,u2,by assumption,u3,u4⟩
       have hq:=λ(d:Bool) (H:a03)=>c0z (d:=d) u1 u2 u3 u4 t1 t2 t3 t4 (λh=>hs (by rw[h.1,h.2])) H;rw[<-mj]at hk0 oU;exact kK false am _ 0 8 eA (.inr (.inr (.inr (.inr ⟨rfl,rfl,aR,hk0,ka,ma,rfl,.inr ⟨hs,rfl⟩⟩)))) λcap _=>⟨[],λ_=>rfl,b0u (c3p c1 dc j0 _ _ rfl rfl rfl rfl v1 v2 v3 v4 md val nd pin be 0 0 _ false aR (λ_=>oU) (λ_ _=>hq) cap 8 (.inr (.inr ⟨rfl,rfl,rfl⟩)))⟩
    ·exact kK false am _ 0 e eA (.inr (.inr (.inl ⟨rfl,rfl,e,aR,he,rfl⟩))) λcap _=>⟨[],λ_=>rfl,b0u (c3p c1 dc j0 _ _ rfl rfl rfl rfl v1 v2 v3 v4 md val nd pin be e 0 0 false aR (λh=>absurd h he) (λh=>absurd h he) cap e (.inl ⟨he,rfl⟩))⟩
 ·have d0:(8:Int)<ps.length:=by omega
  simp only[CX.enc]
  (refine sv Tryz.f8 ?_;simp only[Tryz.f8,gS])
  (repeat first|simp only[ww]|apply xa;simp+decide only[go_sem,d0,jC,c10];rfl;kernel_rfl)
  (apply fqb;simp+decide only[go_sem]<;>rfl)
end Go.UInst
namespace Go.UInst
set_option maxHeartbeats 200000000
open Go.Proofs Go.Ax Go.Pc
attribute [local instance] zc2
set_option maxRecDepth 100000
theorem d5a(c:Cir)(hc:c.wf){k m:Nat}(ht:Tio c k m)(ord:List Nat)(aH:OrdOf c ord)(A:List (Rep×List Nat))(gp:A.length<=8)(hA:∀a∈A,a.2.length=k∧∀v∈a.2,v<=3)(VS:List (List UInt8))(WA:Nat->List Nat)(dD:VS.length=A.length)(dV:∀i a,A[i]?=some a->VS[i]?=some (cyc a.2 (WA i)))(iy:∀i,i<A.length->(WA i).length=m)(ii:∀i,i<A.length->∀w∈WA i,w<=3)(dW:∀s∈VS,VecOk (sgs k m) s)
 (f:Flt)(hf:FltOk c.nodes f)(FV:AV)(O S:Nat->List Nat)(R:Nat->Rep)(hs:Stp c A k m FV O S R)
 (az:∀(d:Bool) (H:a03),cl d 68 [.agg (ce c),.islice [fb f.model f.node f.pin f.value f.other] (some 1)] H=some (.ptr H.length 0 0,H++[some (.row 3 [[FV,gI c A k 0,sl (R 0) ((S 0).map u8R)]])],[])) :
 ∃r:AV×a03,(∃H1,(msI WA O m A.length=[]∧r=(.tuple [.nilslice,.int .i64 0],H1))∨(msI WA O m A.length≠[]∧r=(.tuple [.slice 1 0 (msI WA O m A.length).length (some (msI WA O m A.length).length),.int .i64 0],H1)∧a02 H1 1=some (.row 3 (msI WA O m A.length))))∧
 sM 26 [.agg c.enc,.agg (b67 (sgs k m) VS),.islice [fb f.model f.node f.pin f.value f.other] (some 1)] []=some r:=by
 have hO:c.outs≠[]:=by intro e;have:=ht.out;have:=ht.m1;rw[e]at *;simp at *;omega
 have gb:=λ(d:Bool) (H:a03)=>a3l (d:=d) H c hc ht;have bw:=λ(d:Bool) (H:a03)=>a3q (d:=d) H c (by have:=hc.len;omega);have gj:=λ(d:Bool) (H:a03)=>a7v ht.k1 ht.k4 ht.m1 ht.m4 (vs:=VS) (by omega) dW (d:=d) H;have bh:=λ(d:Bool) (H:a03)=>c28 ht.k1 ht.k4 ht.m1 ht.m4 (vs:=VS) (by omega) dW (d:=d) H;rw[dD]at gj bh;have cS:=λ(d:Bool) (H:a03) (c1 c2:Option Nat)=>b40 (d:=d) H (sgs k m) c1 c2 (by have:=a30 k m;have:=ht.k4;have:=ht.m4;omega);have aR:=λ(d:Bool) (H:a03)=>b5k (d:=d) H c hc f hf;simp only[Flt.enc]at aR;obtain⟨r0,e0⟩:=a4g (kinds c.nodes 0);rw[e0,ht.ins]at bw;obtain⟨t1,t2,t3,t4,t5,t6⟩:=ht;have hn:=hc.len;have cY:=a30 k m;have bH:(kinds c.nodes 0).length=k:=by rw[t1];simp
 obtain⟨V,hV⟩:∃V,c0q VS=V:=⟨_,rfl⟩
 have kY:refs V=[]:=by rw[<-hV];exact b1h _
 have gA:V.storable=true:=by rw[<-hV];cases VS<;>rfl
 have gB:V.cells=[V]:=by rw[<-hV];cases VS<;>rfl
 have iU:V.isJunk=false:=by rw[<-hV];cases VS<;>rfl
 have jA:b67 (sgs k m) VS=[.islice ((sgs k m).map Sgn.row) (some (k+m)),.islice [tmR] (some 1),V]:=by unfold b67;rw[cY,hV]
 rw[jA]at gj bh;rw[jA];simp only[Cir.enc]at gb bw aR⊢;have c3:¬((1024:Int)<A.length):=by omega
 have qd:∀π,ren π V=V:=λπ=>a0b π _ kY;have i4:∀π:Nat->Option Nat,a0g π (.row 4 [ce c]) = .row 4 [ce c]:=λπ=>by simp+decide only[go_sem]
 have jg:a12 (some (.row 4 [ce c]))=[]:=by simp+decide only[go_sem]
 have jL:∀π:Nat->Option Nat,a0g π (.row 3 [[.islice ((sgs k m).map Sgn.row) (some (k+m)),.islice [tmR] (some 1),V]]) = .row 3 [[.islice ((sgs k m).map Sgn.row) (some (k+m)),.islice [tmR] (some 1),V]]:=λπ=>by simp+decide only[go_sem,qd]
 have kZ:a12 (some (.row 3 [[.islice ((sgs k m).map Sgn.row) (some (k+m)),.islice [tmR] (some 1),V]]))=[]:=by simp+decide only[go_sem,kY]
 have d5:=b94 WA O m A.length
 (refine svE Tryz.f26 ?_;simp only[Tryz.f26,gS])
 (repeat first|simp only[ww]|apply xa;simp+decide only[go_sem,gb,gA,gB,iU,c3];rfl;kernel_rfl)
 refine a0m (σ:=Nat) kp26_1 (λj=>[(2,.islice [fb f.model f.node f.pin f.value f.other] (some 1)),(3,.ptr 0 0 0),(4,.ptr 1 0 0),(8,.islice ((sgs k m).map Sgn.row) (some (k+m))),(39,.islice [fb f.model f.node f.pin f.value f.other] (some 1)),(40,.int .i64 1),(41,.int .i64 j)]) (λ_=>[some (.row 4 [ce c]),some (.row 3 [[.islice ((sgs k m).map Sgn.row) (some (k+m)),.islice [tmR] (some 1),V]])]) (λj=>1-j) (λj=>j<=1) 0 ?_ (f2i _) ?_
 ·(simp+decide only[go_sem,a01,a00,i4,jg,jL,kZ]<;>rfl)<;>rfl
 ·intro j hj;by_cases bV:j=0
  ·subst bV
   (repeat first|simp only[ww]|apply xa;simp+decide only[go_sem,aR];rfl;kernel_rfl)
   refine a1m 1 ?_ (by omega) (by omega)
   (simp+decide only[go_sem,a01,a00,i4,jg,jL,kZ]<;>rfl)<;>rfl
  obtain rfl:j=1:=by omega
  (repeat first|simp only[ww]|apply xa;simp+decide only[go_sem,gj,bh,cS,az,bw,gA,gB,iU,c3,c10,f3b];rfl;kernel_rfl)
  have qP:=λi=>d6k hs.fl (a8w c A k i) (a16 (R i) ((S i).map u8R));have nW:=λi=>a0p (k:=3) (qP i);have oE:∀i π,a0g π (.row 3 [[FV,gI c A k i,sl (R i) ((S i).map u8R)]]) = .row 3 [[FV,gI c A k i,sl (R i) ((S i).map u8R)]]:=λi π=>z9o (FlatO.row (k:=3) (qP i) π);have qj:=λn=>b3k WA O m n;have sL:=λn=>b94 WA O m n;refine a0m (σ:=Nat) kp26_4 (λi=>[(16,.ptr 0 0 0),(17,.int .i64 k),(18,grV 1 (msI WA O m i)),(82,.islice (VS.map vcR) (some A.length)),(83,.int .i64 A.length),(84,.int .i64 i)]) (λi=>some (.row 3 [[FV,gI c A k i,sl (R i) ((S i).map u8R)]])::grH 3 (msI WA O m i)) (λi=>A.length-i) (λi=>i<=A.length) 0 ?_ (f2i _) ?_
  ·have e:msI WA O m 0=[]:=rfl;have w1:=hs.fl;have w0:=λπ=>a0b π _ w1;rw[e,a0r,a0s]
   (simp+decide only[go_sem,a01,a00,i4,jg,jL,kZ,nW,oE,dD]<;>rfl)<;>rfl
  ·intro i hi;by_cases ai:i<A.length
   ·obtain⟨a,ha⟩:∃a,A[i]?=some a:=⟨_,z9e ai⟩
    have ls:VS[i]?=some (cyc a.2 (WA i)):=dV i a ha;obtain⟨nG,pY⟩:=hA a (c11 ha);have d1:(i:Int)<A.length:=by omega
    have dk:∀s,vcR s=[.int .i64 0,.str s,.int .i64 1]:=λs=>rfl;have aD:k<=1000000000:=by omega
    have cO:=nW i;have em:=oE i;have ia:=qP i;have jM:=a8w c A k i;have sI:=hs.st i ai;have fF:=qj i;have gR:=sL i;have fk:=e1l WA O m i;have eH:=λ(d:Bool) (H:a03) (b:Nat) (I0:AV) (lW:refs I0=[]) (hb:a02 H b=some (.row 3 [[FV,I0,sl (R i) ((S i).map u8R)]]))=>c4g (d:=d) (H:=H) (b:=b) FV I0 (a29 (O i)) (sl (R (i+1)) ((S (i+1)).map u8R)) (R i) (S i) (inA (xA A) i) (some k) hs.fl lW (a11 _) (by simp only[go_sem]) (a0w _) (a16 _ _) (b26 _) (by simp only[go_sem]) (c4k _) (by simp only[go_sem]) sI hb;have e3:AV.islice ((inA (xA A) i).map u8R) (some k)=gI c A k (i+1):=rfl;rw[c6l (hs.ol i) t5,e3]at eH;have ua:=qP (i+1);have db:=nW (i+1);have cF:=oE (i+1);have e6:=a8w c A k (i+1);have sF:(WA i).length=m:=iy i ai;have nN:∀w∈WA i,w<=3:=ii i ai;have di:=hs.ol i;obtain⟨MI,kI⟩:∃MI,gI c A k i=MI:=⟨_,rfl⟩
    obtain⟨MJ,cQ⟩:∃MJ,gI c A k (i+1)=MJ:=⟨_,rfl⟩
    rw[kI]at cO em ia jM⊢;rw[cQ]at eH ua db cF e6;obtain⟨SI,kF⟩:∃SI,sl (R i) ((S i).map u8R)=SI:=⟨_,rfl⟩
    obtain⟨SJ,ip⟩:∃SJ,sl (R (i+1)) ((S (i+1)).map u8R)=SJ:=⟨_,rfl⟩
    rw[kF]at cO em ia eH⊢;rw[ip]at eH ua db cF;obtain⟨aa,aA⟩:∃aa,msI WA O m i=aa:=⟨_,rfl⟩
    rw[aA]at fF fk gR⊢;obtain⟨z,jT⟩:∃z:List AV,[AV.int .u8 0]=z:=⟨_,rfl⟩
    have cJ:a0d z=[]:=by rw[<-jT];rfl
    have gu:1<=z.length:=by rw[<-jT];exact f2q 1
    have mS:z.drop 1=[]:=by rw[<-jT];rfl
    obtain⟨g,hg⟩:∃g:Nat->List AV,g=λj=>u8R ((inA (xA A) i).getD j 0):=⟨_,rfl⟩
    have eK:∀j,a0d (g j)=[]:=λj=>by rw[hg];rfl
    have fw:=λj=>a2y (f:=g) (z:=z) (n:=k) (i:=j) cJ eK;have fD:=λj=>a06 (fw j);have ln:=λj π=>a05 π (fw j);have lR:FlatR [[AV.int .i64 0,AV.str (cyc a.2 (WA i)),AV.int .i64 1]]:=FlatR.cons rfl FlatR.nil;have jj:upT g z k k=(inA (xA A) i).map u8R:=by
     rw[b3v,hg];have hl:(inA (xA A) i).length=k:=b0y (by rw[a5a ha];exact nG);apply f4x;intro q;rw[f1l,f1l];by_cases hq:q<k
     ·rw[f6v hq,z9e (by omega)];simp only[f2k,f2p,z9e (show q<(inA (xA A) i).length by omega),f4v]
     ·rw[f2s (by simp;omega),f2s (by omega)];rfl
    have iA:=a57 (f:=g) (z:=z) (n:=k) (i:=k);have l9:=fw k;rw[jj]at iA l9;have dF:((inA (xA A) i).map u8R).take k=(inA (xA A) i).map u8R:=f1k (by omega);have dS:=λm d=>a0z (m:=m) (d:=d) l9;obtain⟨W,hW⟩:∃W,WA i=W:=⟨_,rfl⟩
    obtain⟨OO,sK⟩:∃OO,O i=OO:=⟨_,rfl⟩
    rw[hW]at ls fk lR sF nN;rw[sK]at eH fk di;obtain⟨cy,fx⟩:∃cy,cyc a.2 W=cy:=⟨_,rfl⟩
    rw[fx]at ls lR;cases aa with
    |nil=>
     rw[a0r,a0s];simp only[f1e]at fk
     (repeat first|simp only[ww]|apply xa;simp+decide only[go_sem,d1,ai,ls,dk,aD,c10];rfl;kernel_rfl)
     rw[jT];refine a8h kp26_6 rfl 2 rfl (σ:=Nat) (λj=>[(16,.ptr 0 0 0),(17,.int .i64 k),(18,.nilslice),(19,.int .i64 i),(20,.ptr 1 0 0),(21,.slice 2 0 k (some k)),(82,.islice (VS.map vcR) (some A.length)),(83,.int .i64 A.length),(84,.int .i64 i),(92,.int .i64 k),(93,.int .i64 j),(1000002,.junk)])
      (λj=>[some (.row 3 [[FV,MI,SI]]),some (.row 3 [[AV.int .i64 0,AV.str cy,AV.int .i64 1]]),some (.row 1 (upT g z k j))]) (λj=>k-j) (λj=>j<=k) 0 ?_ (f2i _) ?_
     ·rw[<-c36 (f:=g)]
      (simp+decide only[go_sem,a01,a00,cO,em,fD,ln]<;>rfl)<;>rfl
     ·intro j hj;by_cases bg:j<k
      ·have d2:(j:Int)<k:=by omega
       have jV:=wI1 (n:=j) (by omega);obtain⟨v,hv⟩:∃v,a.2[j]?=some v:=⟨_,z9e (by omega)⟩
       have iz:=pY v (c11 hv);have bR:cy[j]?=some (a4o 48 49 v):=by rw[<-fx];unfold cyc;rw[f2l (by rw[c10];omega),f1l,hv];rfl
       have bd:=(f1i.1 bR).1;have gG:=λ(d:Bool) (H:a03)=>b35 (d:=d) H v iz;have aF:=b05 (f:=g) (z:=z) bg;have bO:=b6t (f:=g) (z:=z) bg;have dO:=a57 (f:=g) (z:=z) (n:=k) (i:=j);have nu:g j=[.int .u8 (xz v)]:=by rw[hg];show u8R _=_;rw[b7p,a5a ha,f2p,f1l,hv];rfl
       rw[nu]at aF
       (repeat first|simp only[ww]|apply xa;simp+decide only[go_sem,d2,bg,bR,bd,gG,aF,bO,dO,jV,gu,mS];rfl;kernel_rfl)
       refine a1m (j+1) ?_ (by omega) (by omega)
       (simp+decide only[go_sem,a01,a00,cO,em,fD,ln]<;>rfl)<;>rfl
      ·obtain rfl:j=k:=by omega
       have d2:¬(j:Int)<j:=by omega
       rw[jj];have la:∀Y:Option AObj,b0q 2 [some (.row 3 [[FV,MI,SI]]),some (.row 3 [[AV.int .i64 0,AV.str cy,AV.int .i64 1]]),Y]=[some (.row 3 [[FV,MI,SI]]),some (.row 3 [[AV.int .i64 0,AV.str cy,AV.int .i64 1]])]:=λY=>by unfold b0q;simp only[f3c,f2j,f1a,f1g,f2k,a90,a2o ia,a2o lR]
       (repeat first|simp only[ww]|apply xa;simp+decide only[go_sem,d2];rfl;kernel_rfl)
       rw[c8o];simp only[f1h,f2u,la];simp+decide only[go_sem,dS,dF,iA];rw[e3,cQ];have gm:=λ(d:Bool)=>eH d [some (.row 3 [[FV,MI,SI]]),some (.row 3 [[AV.int .i64 0,AV.str cy,AV.int .i64 1]])] 0 MI jM rfl;simp only[List.set_cons_zero]at gm
       (repeat first|simp only[ww]|apply xa;simp+decide only[go_sem,gm,c10,di];rfl;kernel_rfl)
       refine a3i kp26_8 (λN F Hx=>∃(q:Nat) (TV OV:AV),N=m-q∧q<=m∧F=[(16,.ptr 0 0 0),(17,.int .i64 j),(18,OV),(19,.int .i64 i),(20,TV),(82,.islice (VS.map vcR) (some A.length)),(83,.int .i64 A.length),(84,.int .i64 i),(107,.islice (OO.map u8R) (some m)),(108,.int .i64 m),(109,.int .i64 q)]∧Shp8 [AV.int .i64 0,AV.str cy,AV.int .i64 1] (some (.row 3 [[FV,MJ,SJ]])) (msQ i W OO q) TV OV Hx) m ?_ ?_
       ·refine⟨_,[some (.row 3 [[FV,MJ,SJ]]),some (.row 3 [[AV.int .i64 0,AV.str cy,AV.int .i64 1]])],?_,0,.ptr 1 0 0,.nilslice,rfl,f2i _,rfl,?_⟩
        rotate_left
        ·rw[d1s];exact .a rfl rfl rfl rfl
        ·(simp+decide only[go_sem,a01,a00,db,cF,di,c10]<;>rfl)<;>rfl
       ·rintro N F Hx ⟨q,TV,OV,rfl,hq,rfl,eQ⟩
        have aI:FlatR (msQ i W OO q):=b12 i W OO q;have bT:(msQ i W OO q).length<=1000:=by have:=b4q i W OO q;have h8:i*m<=7*4:=Nat.mul_le_mul (by omega) (by omega);omega
        have dv:=d1r i W OO q;by_cases bK:q<m
        ·have d3:(q:Int)<m:=by omega
         have dq:=wI1 (n:=q) (by omega);have eu:IntKind.i64.wrap ((j:Int)+q)=((j+q:Nat):Int):=by rw[w64 (by omega) (by omega)];omega
         obtain⟨gg,dQ⟩:∃gg,OO[q]?=some gg:=⟨_,z9e (by omega)⟩
         obtain⟨w,hw⟩:∃w,W[q]?=some w:=⟨_,z9e (by omega)⟩
         have mU:=nN w (c11 hw);rw[f2p,f2p,dQ,hw]at dv;simp only[f4v]at dv;have bR:cy[j+q]?=some (a4o 76 72 w):=by rw[<-fx];unfold cyc;rw[f2r (by rw[c10];omega),c10,nG,f7g,f1l,hw];rfl
         have bd:=(f1i.1 bR).1;have ew:u8R gg=[.int .u8 gg]:=rfl;have cL:=b3f (w:=w) (g:=gg) mU;generalize a4o 76 72 w=cb at bR cL;rcases cL with ⟨hm,hb⟩|⟨hm,hb⟩
         ·rw[hm,f2w rfl]at dv;have fh:msQ i W OO (q+1)=(msQ i W OO q)++[a8e i q gg]:=dv;cases eQ with
          |a h1 h2 h3 h4=>
           subst h2 h3 h4;rcases hb with ⟨b1,b2⟩|⟨b1,b2⟩
           all_goals
            subst b2
            (repeat first|simp only[ww]|apply xa;simp+decide only[go_sem,d3,bK,dQ,ew,eu,bR,bd,b1,dq];rfl;kernel_rfl)
            refine a0y (m-(q+1)) (by omega) ⟨_,_,?_,q+1,.ptr 2 0 0,.slice 1 0 1 none,rfl,bK,rfl,by rw[fh,h1];exact .b (by simp) rfl rfl rfl⟩
            (simp+decide only[go_sem,a01,a00,db,cF,di,c10,a8e]<;>rfl)<;>rfl
          |b h1 h2 h3 h4=>
           obtain⟨y,ys,hy⟩:∃y ys,msQ i W OO q=y::ys:=f4g h1;rw[hy]at h2 h4 fh aI bT;have fc:a0d y=[]:=aI y (f7l ..);have fa:FlatR ys:=λr hr=>aI r (f6r _ hr);have bo:=a06 fa;have bp:=λπ=>a05 π fa;have iw:∀π,y.map (ren π)=y:=λπ=>by have h:=a05 π (FlatR.cons fc FlatR.nil);simpa using h
           simp only[f1c]at h2 bT;have iv:ys.length+1+1<=1000000000:=by omega
           subst h2 h3 h4;rcases hb with ⟨b1,b2⟩|⟨b1,b2⟩
           all_goals
            subst b2
            (repeat first|simp only[ww]|apply xa;simp+decide only[go_sem,d3,bK,dQ,ew,eu,bR,bd,b1,dq,iv,f1c];rfl;kernel_rfl)
            refine a0y (m-(q+1)) (by omega) ⟨_,_,?_,q+1,.ptr 2 0 0,.slice 1 0 (ys.length+1+1) none,rfl,bK,rfl,by rw[fh];exact .b (by simp) (by simp) rfl rfl⟩
            (simp+decide only[go_sem,a01,a00,db,cF,bo,bp,fc,iw,di,f2o,f2t,f1a,f1g,f7r,f4k,f7t,c10,a8e]<;>rfl)<;>rfl
          |c h1 h2 h3 h4=>
           obtain⟨y,ys,hy⟩:∃y ys,msQ i W OO q=y::ys:=f4g h1;rw[hy]at h2 h4 fh aI bT;have fc:a0d y=[]:=aI y (f7l ..);have fa:FlatR ys:=λr hr=>aI r (f6r _ hr);have bo:=a06 fa;have bp:=λπ=>a05 π fa;have iw:∀π,y.map (ren π)=y:=λπ=>by have h:=a05 π (FlatR.cons fc FlatR.nil);simpa using h
           simp only[f1c]at h2 bT;have iv:ys.length+1+1<=1000000000:=by omega
           subst h2 h3 h4;rcases hb with ⟨b1,b2⟩|⟨b1,b2⟩
           all_goals
            subst b2
            (repeat first|simp only[ww]|apply xa;simp+decide only[go_sem,d3,bK,dQ,ew,eu,bR,bd,b1,dq,iv,f1c];rfl;kernel_rfl)
            refine a0y (m-(q+1)) (by omega) ⟨_,_,?_,q+1,.iptr [AV.int .i64 0,AV.str cy,AV.int .i64 1],.slice 1 0 (ys.length+1+1) none,rfl,bK,rfl,by rw[fh];exact .c (by simp) (by simp) rfl rfl⟩
            (simp+decide only[go_sem,a01,a00,db,cF,bo,bp,fc,iw,di,f2o,f2t,f1a,f1g,f7r,f4k,f7t,c10,a8e]<;>rfl)<;>rfl
         ·rw[hm,f2m (by decide),f1b]at dv;rw[<-dv]at eQ;cases eQ with
          |a h1 h2 h3 h4=>
           subst h2 h3 h4;rcases hb with ⟨b1,b2⟩|⟨b1,b2⟩|⟨b1,b2⟩
           all_goals
            (repeat first|simp only[ww]|apply xa;simp+decide only[go_sem,d3,bK,dQ,ew,eu,bR,bd,b1,b2,dq];rfl;kernel_rfl)
            refine a0y (m-(q+1)) (by omega) ⟨_,_,?_,q+1,.ptr 1 0 0,.nilslice,rfl,bK,rfl,.a h1 rfl rfl rfl⟩
            (simp+decide only[go_sem,a01,a00,db,cF,di,c10]<;>rfl)<;>rfl
          |b h1 h2 h3 h4=>
           rw[<-dv]at aI;obtain⟨RR,eV⟩:∃RR,msQ i W OO (q+1)=RR:=⟨_,rfl⟩
           rw[eV]at aI h1 h2 h4;have bo:=a06 aI;have bp:=λπ=>a05 π aI;subst h2 h3 h4;rcases hb with ⟨b1,b2⟩|⟨b1,b2⟩|⟨b1,b2⟩
           all_goals
            (repeat first|simp only[ww]|apply xa;simp+decide only[go_sem,d3,bK,dQ,ew,eu,bR,bd,b1,b2,dq];rfl;kernel_rfl)
            refine a0y (m-(q+1)) (by omega) ⟨_,_,?_,q+1,.ptr 2 0 0,_,rfl,bK,rfl,by rw[eV];exact .b h1 rfl rfl rfl⟩
            (simp+decide only[go_sem,a01,a00,db,cF,bo,bp,di,c10]<;>rfl)<;>rfl
          |c h1 h2 h3 h4=>
           rw[<-dv]at aI;obtain⟨RR,eV⟩:∃RR,msQ i W OO (q+1)=RR:=⟨_,rfl⟩
           rw[eV]at aI h1 h2 h4;have bo:=a06 aI;have bp:=λπ=>a05 π aI;subst h2 h3 h4;rcases hb with ⟨b1,b2⟩|⟨b1,b2⟩|⟨b1,b2⟩
           all_goals
            (repeat first|simp only[ww]|apply xa;simp+decide only[go_sem,d3,bK,dQ,ew,eu,bR,bd,b1,b2,dq];rfl;kernel_rfl)
            refine a0y (m-(q+1)) (by omega) ⟨_,_,?_,q+1,.iptr [AV.int .i64 0,AV.str cy,AV.int .i64 1],_,rfl,bK,rfl,by rw[eV];exact .c h1 rfl rfl rfl⟩
            (simp+decide only[go_sem,a01,a00,db,cF,bo,bp,di,c10]<;>rfl)<;>rfl
        ·obtain rfl:q=m:=by omega
         have d3:¬(q:Int)<q:=by omega
         have aS:=wI1 (n:=i) (by omega);cases eQ with
         |a h1 h2 h3 h4=>
          subst h2 h3 h4
          (repeat first|simp only[ww]|apply xa;simp+decide only[go_sem,d3,aS];rfl;kernel_rfl)
          refine a1m (i+1) ?_ (by omega) (by omega);simp only[cQ,ip,fk,h1,a0r,a0s]
          (simp+decide only[go_sem,a01,a00,db,cF]<;>rfl)<;>rfl
         |b h1 h2 h3 h4=>
          obtain⟨y,ys,hy⟩:∃y ys,msQ i W OO q=y::ys:=f4g h1;have bo:=a06 aI;have bp:=λπ=>a05 π aI;rw[hy]at h2 h4 bo bp;simp only[f4k,f1a]at bo bp;simp only[f1c]at h2;subst h2 h3 h4
          (repeat first|simp only[ww]|apply xa;simp+decide only[go_sem,d3,aS];rfl;kernel_rfl)
          refine a1m (i+1) ?_ (by omega) (by omega);simp only[cQ,ip,fk,hy,a09,a0a]
          (simp+decide only[go_sem,a01,a00,db,cF,bo,bp]<;>rfl)<;>rfl
         |c h1 h2 h3 h4=>
          obtain⟨y,ys,hy⟩:∃y ys,msQ i W OO q=y::ys:=f4g h1;have bo:=a06 aI;have bp:=λπ=>a05 π aI;rw[hy]at h2 h4 bo bp;simp only[f4k,f1a]at bo bp;simp only[f1c]at h2;subst h2 h3 h4
          (repeat first|simp only[ww]|apply xa;simp+decide only[go_sem,d3,aS];rfl;kernel_rfl)
          refine a1m (i+1) ?_ (by omega) (by omega);simp only[cQ,ip,fk,hy,a09,a0a]
          (simp+decide only[go_sem,a01,a00,db,cF,bo,bp]<;>rfl)<;>rfl
    |cons x rs=>
     have dl:=a06 fF;have bW:=λπ=>a05 π fF;simp only[f4k,f1a]at dl bW;simp only[f1c]at gR;rw[a09,a0a]
     (repeat first|simp only[ww]|apply xa;simp+decide only[go_sem,d1,ai,ls,dk,aD,c10];rfl;kernel_rfl)
     rw[jT];refine a8h kp26_6 rfl 2 rfl (σ:=Nat) (λj=>[(16,.ptr 0 0 0),(17,.int .i64 k),(18,.slice 1 0 (rs.length+1) none),(19,.int .i64 i),(20,.ptr 2 0 0),(21,.slice 3 0 k (some k)),(82,.islice (VS.map vcR) (some A.length)),(83,.int .i64 A.length),(84,.int .i64 i),(92,.int .i64 k),(93,.int .i64 j),(1000002,.junk)])
      (λj=>[some (.row 3 [[FV,MI,SI]]),some (.row 3 (x::rs)),some (.row 3 [[AV.int .i64 0,AV.str cy,AV.int .i64 1]]),some (.row 1 (upT g z k j))]) (λj=>k-j) (λj=>j<=k) 0 ?_ (f2i _) ?_
     ·rw[<-c36 (f:=g)]
      (simp+decide only[go_sem,a01,a00,cO,em,dl,bW,fD,ln]<;>rfl)<;>rfl
     ·intro j hj;by_cases bg:j<k
      ·have d2:(j:Int)<k:=by omega
       have jV:=wI1 (n:=j) (by omega);obtain⟨v,hv⟩:∃v,a.2[j]?=some v:=⟨_,z9e (by omega)⟩
       have iz:=pY v (c11 hv);have bR:cy[j]?=some (a4o 48 49 v):=by rw[<-fx];unfold cyc;rw[f2l (by rw[c10];omega),f1l,hv];rfl
       have bd:=(f1i.1 bR).1;have gG:=λ(d:Bool) (H:a03)=>b35 (d:=d) H v iz;have aF:=b05 (f:=g) (z:=z) bg;have bO:=b6t (f:=g) (z:=z) bg;have dO:=a57 (f:=g) (z:=z) (n:=k) (i:=j);have nu:g j=[.int .u8 (xz v)]:=by rw[hg];show u8R _=_;rw[b7p,a5a ha,f2p,f1l,hv];rfl
       rw[nu]at aF
       (repeat first|simp only[ww]|apply xa;simp+decide only[go_sem,d2,bg,bR,bd,gG,aF,bO,dO,jV,gu,mS];rfl;kernel_rfl)
       refine a1m (j+1) ?_ (by omega) (by omega)
       (simp+decide only[go_sem,a01,a00,cO,em,dl,bW,fD,ln]<;>rfl)<;>rfl
      ·obtain rfl:j=k:=by omega
       have d2:¬(j:Int)<j:=by omega
       rw[jj];have la:∀Y:Option AObj,b0q 2 [some (.row 3 [[FV,MI,SI]]),some (.row 3 (x::rs)),some (.row 3 [[AV.int .i64 0,AV.str cy,AV.int .i64 1]]),Y]=[some (.row 3 [[FV,MI,SI]]),some (.row 3 (x::rs))]:=λY=>by unfold b0q;simp only[f3c,f2j,f1a,f1g,f2k,a90,a2o ia,a2o lR,a2o fF]
       (repeat first|simp only[ww]|apply xa;simp+decide only[go_sem,d2];rfl;kernel_rfl)
       rw[c8o];simp only[f1h,f2u,la];simp+decide only[go_sem,dS,dF,iA];rw[e3,cQ];have gm:=λ(d:Bool)=>eH d [some (.row 3 [[FV,MI,SI]]),some (.row 3 (x::rs))] 0 MI jM rfl;simp only[List.set_cons_zero]at gm
       (repeat first|simp only[ww]|apply xa;simp+decide only[go_sem,gm,c10,di];rfl;kernel_rfl)
       refine a3i kp26_8 (λN F Hx=>∃(q:Nat) (TV OV:AV),N=m-q∧q<=m∧F=[(16,.ptr 0 0 0),(17,.int .i64 j),(18,OV),(19,.int .i64 i),(20,TV),(82,.islice (VS.map vcR) (some A.length)),(83,.int .i64 A.length),(84,.int .i64 i),(107,.islice (OO.map u8R) (some m)),(108,.int .i64 m),(109,.int .i64 q)]∧Shp8 [AV.int .i64 0,AV.str cy,AV.int .i64 1] (some (.row 3 [[FV,MJ,SJ]])) ((x::rs)++msQ i W OO q) TV OV Hx) m ?_ ?_
       ·refine⟨_,[some (.row 3 [[FV,MJ,SJ]]),some (.row 3 (x::rs))],?_,0,.iptr [AV.int .i64 0,AV.str cy,AV.int .i64 1],.slice 1 0 (rs.length+1) none,rfl,f2i _,rfl,?_⟩
        rotate_left
        ·rw[d1s];exact .c (by simp) (by simp) rfl (by simp)
        ·(simp+decide only[go_sem,a01,a00,db,cF,dl,bW,di,c10]<;>rfl)<;>rfl
       ·rintro N F Hx ⟨q,TV,OV,rfl,hq,rfl,eQ⟩
        have aI:FlatR ((x::rs)++msQ i W OO q):=fF.append (b12 i W OO q);have bT:((x::rs)++msQ i W OO q).length<=1000:=by have:=b4q i W OO q;have h8:i*m<=7*4:=Nat.mul_le_mul (by omega) (by omega);rw[f2n];simp only[f1c,f1h];omega
        have dv:=d1r i W OO q;by_cases bK:q<m
        ·have d3:(q:Int)<m:=by omega
         have dq:=wI1 (n:=q) (by omega);have eu:IntKind.i64.wrap ((j:Int)+q)=((j+q:Nat):Int):=by rw[w64 (by omega) (by omega)];omega
         obtain⟨gg,dQ⟩:∃gg,OO[q]?=some gg:=⟨_,z9e (by omega)⟩
         obtain⟨w,hw⟩:∃w,W[q]?=some w:=⟨_,z9e (by omega)⟩
         have mU:=nN w (c11 hw);rw[f2p,f2p,dQ,hw]at dv;simp only[f4v]at dv;have bR:cy[j+q]?=some (a4o 76 72 w):=by rw[<-fx];unfold cyc;rw[f2r (by rw[c10];omega),c10,nG,f7g,f1l,hw];rfl
         have bd:=(f1i.1 bR).1;have ew:u8R gg=[.int .u8 gg]:=rfl;have cL:=b3f (w:=w) (g:=gg) mU;generalize a4o 76 72 w=cb at bR cL;rcases cL with ⟨hm,hb⟩|⟨hm,hb⟩
         ·rw[hm,f2w rfl]at dv;have fh:(x::rs)++msQ i W OO (q+1)=((x::rs)++msQ i W OO q)++[a8e i q gg]:=by rw[dv,e12]
          cases eQ with
          |a h1 h2 h3 h4=>
           subst h2 h3 h4;rcases hb with ⟨b1,b2⟩|⟨b1,b2⟩
           all_goals
            subst b2
            (repeat first|simp only[ww]|apply xa;simp+decide only[go_sem,d3,bK,dQ,ew,eu,bR,bd,b1,dq];rfl;kernel_rfl)
            refine a0y (m-(q+1)) (by omega) ⟨_,_,?_,q+1,.ptr 2 0 0,.slice 1 0 1 none,rfl,bK,rfl,by rw[fh,h1];exact .b (by simp) rfl rfl rfl⟩
            (simp+decide only[go_sem,a01,a00,db,cF,di,c10,a8e]<;>rfl)<;>rfl
          |b h1 h2 h3 h4=>
           obtain⟨y,ys,hy⟩:∃y ys,(x::rs)++msQ i W OO q=y::ys:=f4g h1;rw[hy]at h2 h4 fh aI bT;have fc:a0d y=[]:=aI y (f7l ..);have fa:FlatR ys:=λr hr=>aI r (f6r _ hr);have bo:=a06 fa;have bp:=λπ=>a05 π fa;have iw:∀π,y.map (ren π)=y:=λπ=>by have h:=a05 π (FlatR.cons fc FlatR.nil);simpa using h
           simp only[f1c]at h2 bT;have iv:ys.length+1+1<=1000000000:=by omega
           subst h2 h3 h4;rcases hb with ⟨b1,b2⟩|⟨b1,b2⟩
           all_goals
            subst b2
            (repeat first|simp only[ww]|apply xa;simp+decide only[go_sem,d3,bK,dQ,ew,eu,bR,bd,b1,dq,iv,f1c];rfl;kernel_rfl)
            refine a0y (m-(q+1)) (by omega) ⟨_,_,?_,q+1,.ptr 2 0 0,.slice 1 0 (ys.length+1+1) none,rfl,bK,rfl,by rw[fh];exact .b (by simp) (by simp) rfl rfl⟩
            (simp+decide only[go_sem,a01,a00,db,cF,bo,bp,fc,iw,di,f2o,f2t,f1a,f1g,f7r,f4k,f7t,c10,a8e]<;>rfl)<;>rfl
          |c h1 h2 h3 h4=>
           obtain⟨y,ys,hy⟩:∃y ys,(x::rs)++msQ i W OO q=y::ys:=f4g h1;rw[hy]at h2 h4 fh aI bT;have fc:a0d y=[]:=aI y (f7l ..);have fa:FlatR ys:=λr hr=>aI r (f6r _ hr);have bo:=a06 fa;have bp:=λπ=>a05 π fa;have iw:∀π,y.map (ren π)=y:=λπ=>by have h:=a05 π (FlatR.cons fc FlatR.nil);simpa using h
           simp only[f1c]at h2 bT;have iv:ys.length+1+1<=1000000000:=by omega
           subst h2 h3 h4;rcases hb with ⟨b1,b2⟩|⟨b1,b2⟩
           all_goals
            subst b2
            (repeat first|simp only[ww]|apply xa;simp+decide only[go_sem,d3,bK,dQ,ew,eu,bR,bd,b1,dq,iv,f1c];rfl;kernel_rfl)
            refine a0y (m-(q+1)) (by omega) ⟨_,_,?_,q+1,.iptr [AV.int .i64 0,AV.str cy,AV.int .i64 1],.slice 1 0 (ys.length+1+1) none,rfl,bK,rfl,by rw[fh];exact .c (by simp) (by simp) rfl rfl⟩
            (simp+decide only[go_sem,a01,a00,db,cF,bo,bp,fc,iw,di,f2o,f2t,f1a,f1g,f7r,f4k,f7t,c10,a8e]<;>rfl)<;>rfl
         ·rw[hm,f2m (by decide),f1b]at dv;rw[<-dv]at eQ;cases eQ with
          |a h1 h2 h3 h4=>
           subst h2 h3 h4;rcases hb with ⟨b1,b2⟩|⟨b1,b2⟩|⟨b1,b2⟩
           all_goals
            (repeat first|simp only[ww]|apply xa;simp+decide only[go_sem,d3,bK,dQ,ew,eu,bR,bd,b1,b2,dq];rfl;kernel_rfl)
            refine a0y (m-(q+1)) (by omega) ⟨_,_,?_,q+1,.ptr 1 0 0,.nilslice,rfl,bK,rfl,.a h1 rfl rfl rfl⟩
            (simp+decide only[go_sem,a01,a00,db,cF,di,c10]<;>rfl)<;>rfl
          |b h1 h2 h3 h4=>
           rw[<-dv]at aI;obtain⟨RR,eV⟩:∃RR,(x::rs)++msQ i W OO (q+1)=RR:=⟨_,rfl⟩
           rw[eV]at aI h1 h2 h4;have bo:=a06 aI;have bp:=λπ=>a05 π aI;subst h2 h3 h4;rcases hb with ⟨b1,b2⟩|⟨b1,b2⟩|⟨b1,b2⟩
           all_goals
            (repeat first|simp only[ww]|apply xa;simp+decide only[go_sem,d3,bK,dQ,ew,eu,bR,bd,b1,b2,dq];rfl;kernel_rfl)
            refine a0y (m-(q+1)) (by omega) ⟨_,_,?_,q+1,.ptr 2 0 0,_,rfl,bK,rfl,by rw[eV];exact .b h1 rfl rfl rfl⟩
            (simp+decide only[go_sem,a01,a00,db,cF,bo,bp,di,c10]<;>rfl)<;>rfl
          |c h1 h2 h3 h4=>
           rw[<-dv]at aI;obtain⟨RR,eV⟩:∃RR,(x::rs)++msQ i W OO (q+1)=RR:=⟨_,rfl⟩
           rw[eV]at aI h1 h2 h4;have bo:=a06 aI;have bp:=λπ=>a05 π aI;subst h2 h3 h4;rcases hb with ⟨b1,b2⟩|⟨b1,b2⟩|⟨b1,b2⟩
           all_goals
            (repeat first|simp only[ww]|apply xa;simp+decide only[go_sem,d3,bK,dQ,ew,eu,bR,bd,b1,b2,dq];rfl;kernel_rfl)
            refine a0y (m-(q+1)) (by omega) ⟨_,_,?_,q+1,.iptr [AV.int .i64 0,AV.str cy,AV.int .i64 1],_,rfl,bK,rfl,by rw[eV];exact .c h1 rfl rfl rfl⟩
            (simp+decide only[go_sem,a01,a00,db,cF,bo,bp,di,c10]<;>rfl)<;>rfl
        ·obtain rfl:q=m:=by omega
         have d3:¬(q:Int)<q:=by omega
         have aS:=wI1 (n:=i) (by omega);cases eQ with
         |a h1 h2 h3 h4=>
          subst h2 h3 h4
          (repeat first|simp only[ww]|apply xa;simp+decide only[go_sem,d3,aS];rfl;kernel_rfl)
          refine a1m (i+1) ?_ (by omega) (by omega);simp only[cQ,ip,fk,h1,a0r,a0s]
          (simp+decide only[go_sem,a01,a00,db,cF]<;>rfl)<;>rfl
         |b h1 h2 h3 h4=>
          obtain⟨y,ys,hy⟩:∃y ys,(x::rs)++msQ i W OO q=y::ys:=f4g h1;have bo:=a06 aI;have bp:=λπ=>a05 π aI;rw[hy]at h2 h4 bo bp;simp only[f4k,f1a]at bo bp;simp only[f1c]at h2;subst h2 h3 h4
          (repeat first|simp only[ww]|apply xa;simp+decide only[go_sem,d3,aS];rfl;kernel_rfl)
          refine a1m (i+1) ?_ (by omega) (by omega);simp only[cQ,ip,fk,hy,a09,a0a]
          (simp+decide only[go_sem,a01,a00,db,cF,bo,bp]<;>rfl)<;>rfl
         |c h1 h2 h3 h4=>
          obtain⟨y,ys,hy⟩:∃y ys,(x::rs)++msQ i W OO q=y::ys:=f4g h1;have bo:=a06 aI;have bp:=λπ=>a05 π aI;rw[hy]at h2 h4 bo bp;simp only[f4k,f1a]at bo bp;simp only[f1c]at h2;subst h2 h3 h4
          (repeat first|simp only[ww]|apply xa;simp+decide only[go_sem,d3,aS];rfl;kernel_rfl)
          refine a1m (i+1) ?_ (by omega) (by omega);simp only[cQ,ip,fk,hy,a09,a0a]
          (simp+decide only[go_sem,a01,a00,db,cF,bo,bp]<;>rfl)<;>rfl
   ·obtain rfl:i=A.length:=by omega
    have d1:¬(A.length:Int)<A.length:=by omega
    have g8:=λ(d:Bool) (H:a03)=>b4s (d:=d) H;have fF:=qj A.length;generalize msI WA O m A.length=aa at fF⊢;cases aa with
    |nil=>
     rw[a0r,a0s]
     (repeat first|simp only[ww]|apply xa;simp+decide only[go_sem,d1,g8];rfl;kernel_rfl)
     refine a44 (vs:=[.nilslice,.int .i64 0]) (r:=(.tuple [.nilslice,.int .i64 0],[some (.row 3 [[FV,gI c A k A.length,sl (R A.length) ((S A.length).map u8R)]])])) (by simp+decide only[go_sem]<;>rfl) ?_ (by first|exact⟨_,rfl⟩|exact⟨_,.inl ⟨rfl,rfl⟩⟩|exact⟨_,.inl rfl⟩|exact⟨_,.inl ⟨trivial,rfl⟩⟩);rfl
    |cons x rs=>
     have cW:=λ(d:Bool) (X:Option AObj)=>b7e (d:=d) (H:=[X,some (.row 3 (x::rs))]) (b:=1) (n:=rs.length+1) fF rfl;rw[a09,a0a]
     (repeat first|simp only[ww]|apply xa;simp+decide only[go_sem,d1,cW];rfl;kernel_rfl)
     refine a44 (vs:=[.slice 1 0 (rs.length+1) (some (rs.length+1)),.int .i64 0]) (r:=(.tuple [.slice 1 0 (rs.length+1) (some (rs.length+1)),.int .i64 0],[some (.row 3 [[FV,gI c A k A.length,sl (R A.length) ((S A.length).map u8R)]]),some (.row 3 (x::rs))])) (by simp+decide only[go_sem]<;>rfl) ?_ (by first|exact⟨_,rfl,rfl⟩|exact⟨_,.inr ⟨by simp,rfl,rfl⟩⟩|exact⟨_,rfl,by rfl⟩);rfl
end Go.UInst
namespace Go.UInst
open Go.Proofs Go.Ax Go.Pc
variable [ZC]
set_option maxRecDepth 100000
def b6k(c:Cir)(ord:List Nat)(f:Flt)(p:Pat):List Nat:=a17 c.outs (a9u c ord (a9y c ord f p) p)
def b29(c:Cir)(ord:List Nat)(f:Flt)(p:Pat):List Nat:=a62 c.nodes (a9y c ord f p) (a9u c ord (a9y c ord f p) p) (kinds c.nodes 14)
theorem e20(c:Cir)(hc:c.wf)(hO:c.outs≠[])(p:Pat)(hp:PatOk c.nodes p)(f:Flt)(hf:FltOk c.nodes f)(ord:List Nat)(aH:OrdOf c ord) :
 sM 72 [.agg (ce c),.agg (fb f.model f.node f.pin f.value f.other),.agg [sl p.ic (p.ins.map u8R),sl p.sc (p.sts.map u8R)]] []=some (.tuple [a7j (b6k c ord f p) (b29 c ord f p),.junk,.int .i64 0],[]):=by
 have hb:=λ(d:Bool) (H:a03)=>d3z (d:=d) H c hc hO p hp f hf ord aH;unfold a7j at hb⊢;unfold b6k b29;have s1:=a11 (a17 c.outs (a2s c ord p));have s2:=a11 (a1x c.nodes (a2s c ord p));have s3:=a11 (a17 c.outs (a9u c ord (a9y c ord f p) p));have s4:=a11 (a62 c.nodes (a9y c ord f p) (a9u c ord (a9y c ord f p) p) (kinds c.nodes 14));have q3:=a0w (a17 c.outs (a9u c ord (a9y c ord f p) p));have q4:=a0w (a62 c.nodes (a9y c ord f p) (a9u c ord (a9y c ord f p) p) (kinds c.nodes 14));generalize a29 (a17 c.outs (a2s c ord p))=A1 at hb s1;generalize a29 (a1x c.nodes (a2s c ord p))=A2 at hb s2;generalize a29 (a17 c.outs (a9u c ord (a9y c ord f p) p))=B1 at hb s3 q3⊢;generalize a29 (a62 c.nodes (a9y c ord f p) (a9u c ord (a9y c ord f p) p) (kinds c.nodes 14))=B2 at hb s4 q4⊢
 (refine sv Tryz.f72 ?_;simp only[Tryz.f72,gS])
 (repeat first|simp only[ww]|apply xa;simp+decide only[go_sem,hb,s1,s2,s3,s4];rfl;kernel_rfl)
 refine a6p (vs:=[.agg [B1,B2],.junk,.int .i64 0]) (by simp+decide only[go_sem]<;>rfl) (a5b (by simp only[a6l,go_sem,q3,q4,f1b]))
theorem d2j{d:Bool}(H:a03)(c:Cir)(hc:c.wf)(hO:c.outs≠[])(p:Pat)(hp:PatOk c.nodes p)(f:Flt)(hf:FltOk c.nodes f)(ord:List Nat)(aH:OrdOf c ord) :
 cl d 72 [.agg (ce c),.agg (fb f.model f.node f.pin f.value f.other),.agg [sl p.ic (p.ins.map u8R),sl p.sc (p.sts.map u8R)]] H=some (.tuple [a7j (b6k c ord f p) (b29 c ord f p),.junk,.int .i64 0],H,[]):=
 cf (by simp only[f1e,f1b,go_sem]) (e20 c hc hO p hp f hf ord aH) (by simp only[a58,a04,a0t,a3c,f1b];rfl)
def fn2(c:Cir)(f:Flt):AV:=.func (.func 122) [] [.iptr c.enc,.iptr [.islice [f.enc] (some 1)]]
theorem c68(c:Cir)(f:Flt):refs (fn2 c f)=[]:=by unfold fn2;simp only[Cir.enc,Flt.enc,go_sem]<;>rfl
theorem d5l(c:Cir)(hc:c.wf)(hO:c.outs≠[])(ord:List Nat)(aH:OrdOf c ord)(f:Flt)(hf:FltOk c.nodes f)(p:Pat)(hp:PatOk c.nodes p):sM 122 [.agg p.enc,.iptr c.enc,.iptr [.islice [f.enc] (some 1)]] []=some (a7j (b6k c ord f p) (b29 c ord f p),[]):=by
 have hr:=λ(d:Bool) (H:a03)=>d2j (d:=d) H c hc hO p hp f hf ord aH;unfold a7j at hr⊢;simp only[Cir.enc,Pat.enc,Flt.enc]at hr⊢;have s1:=a11 (b6k c ord f p);have s2:=a11 (b29 c ord f p);have r1:=a0w (b6k c ord f p);have r2:=a0w (b29 c ord f p);generalize a29 (b6k c ord f p)=C1 at hr s1 r1⊢;generalize a29 (b29 c ord f p)=C2 at hr s2 r2⊢;have f1:=λm t d=>a0i m t d _ r1;have f2:=λm t d=>a0i m t d _ r2;have i8:∀(r:List AV) (rs:List (List AV)),Ax.rowAt (r::rs) 0=some r:=λ_ _=>rfl
 (refine sv Tryz.f122 ?_;simp only[Tryz.f122,gS])
 (repeat first|simp only[ww]|apply xa;simp+decide only[go_sem,hr,s1,s2,i8];rfl;kernel_rfl)
 (apply fqb;simp+decide only[go_sem,f1,f2]<;>rfl)
theorem c7e(c:Cir)(hc:c.wf)(hO:c.outs≠[])(ord:List Nat)(aH:OrdOf c ord)(f:Flt)(hf:FltOk c.nodes f)(p:Pat)(hp:PatOk c.nodes p){d:Bool}(H:a03) :
 a20 L.env d sM (fn2 c f) [.agg p.enc] H=some (a7j (b6k c ord f p) (b29 c ord f p),H,[]):=
 cf (by simp only[f1e,f1b,f2o,a04,a0n,c15,Pat.enc,a16,a0t,a4c,Flt.enc,go_sem]<;>rfl) (d5l c hc hO ord aH f hf p hp) (a3c _ _)
theorem d0k(c:Cir)(hc:c.wf)(f:Flt)(hf:f.model≠1):sM 68 [.agg c.enc,.islice [f.enc] (some 1)] []=some (.ptr 0 0 0,[some (.row 3 [[fn2 c f,.islice ((List.replicate (kinds c.nodes 0).length 2).map u8R) (some (kinds c.nodes 0).length),.islice ((List.replicate (kinds c.nodes 14).length 2).map u8R) (some (kinds c.nodes 14).length)]])]):=by
 have hb:∀(d:Bool) (H:a03),cl d 22 [.agg (ce c)] H=some (.agg [.islice ((List.replicate (kinds c.nodes 0).length 2).map u8R) (some (kinds c.nodes 0).length),.islice ((List.replicate (kinds c.nodes 14).length 2).map u8R) (some (kinds c.nodes 14).length)],H,[]):=λd H=>b06 H c hc;have i8:∀(r:List AV) (rs:List (List AV)),Ax.rowAt (r::rs) 0=some r:=λ_ _=>rfl;have c1:¬(f.model:Int)=1:=by omega
 simp only[Cir.enc,fn2,Flt.enc];refine f3x Tryz.f68 0 1 ?_;simp only[Tryz.f68,gS];refine a7k ?_
 (repeat first|simp only[ww]|apply xa;simp+decide only[go_sem];rfl;kernel_rfl)
 try rw[a8a]
 try simp only[c0k,f1h,f2u]
 repeat rw[a1z (by simp+decide only[go_sem,a6r,a1n,f8s,f9h])]
 simp+decide only[go_sem,f3c,f2j,f6x];refine d54 ?_
 (repeat first|simp only[ww]|apply xa;simp+decide only[go_sem,hb,c1,i8];rfl;kernel_rfl)
 refine e75 (vs:=[.ptr 0 0 0]) (by simp+decide only[go_sem]) (by rfl)
theorem c3f{d:Bool}(H:a03)(c:Cir)(hc:c.wf)(f:Flt)(hf:f.model≠1):cl d 68 [.agg c.enc,.islice [f.enc] (some 1)] H=some (.ptr H.length 0 0,H++[some (.row 3 [[fn2 c f,.islice ((List.replicate (kinds c.nodes 0).length 2).map u8R) (some (kinds c.nodes 0).length),.islice ((List.replicate (kinds c.nodes 14).length 2).map u8R) (some (kinds c.nodes 14).length)]])],[]):=by have h2:=b0l (E:=L.env) (d:=d) (fs:=[]) (cs:=[]) (ar:=[.agg c.enc,.islice [f.enc] (some 1)]) (H:=H) (by kernel_rfl) (by kernel_rfl) rfl (by simp only[f1e,f1b,a04,a0n,a4c,Flt.enc,go_sem]) (d0k c hc f hf);refine h2.trans ?_;have h3:=FlatO.row (k:=3) (d6k (c68 c f) (I:=.islice ((List.replicate (kinds c.nodes 0).length 2).map u8R) (some (kinds c.nodes 0).length)) (W:=.islice ((List.replicate (kinds c.nodes 14).length 2).map u8R) (some (kinds c.nodes 14).length)) rfl rfl) (a1d [] H.length);simp only[f1a,f1g,h3];simp only[go_sem,d43,f8z]<;>rfl
section
variable (c:Cir)(ord:List Nat)(A:List (Rep×List Nat))(f:Flt)
def bdS:Nat->List Nat
 |0=>List.replicate (kinds c.nodes 14).length 2
 |i+1=>b29 c ord f ⟨none,inA (xA A) i,none,bdS i⟩
def bdO(i:Nat):List Nat:=b6k c ord f ⟨none,inA (xA A) i,none,bdS c ord A f i⟩
def bdR:Nat->Rep
 |0=>some (some (kinds c.nodes 14).length)
 |i+1=>clR (bdS c ord A f (i+1))
end
theorem d87(c:Cir)(ord:List Nat)(f:Flt)(hf:FltOk c.nodes f)(p:Pat)(hp:PatOk c.nodes p):∀v∈b29 c ord f p,v<=3:=by
 have hk:=d2u c ord f hf p hp;have hN:∀v∈a9u c ord (a9y c ord f p) p,v<=3:=b3d hk _ _ _ _ _ hp.inv hp.stv;unfold b29 a62;intro v hv;obtain⟨n,_,rfl⟩:=f6q.1 hv;split
 ·omega
 ·rw[f2p];cases h:(a1o nAlg c.nodes (a9y c ord f p) (a9u c ord (a9y c ord f p) p) n)[0]? with
  |none=>simp
  |some x=>exact c5b hk hN n _ _ x (c11 h)
theorem d42(c:Cir)(ord:List Nat)(A:List (Rep×List Nat))(f:Flt):∀i,(bdS c ord A f i).length=(kinds c.nodes 14).length
 |0=>by simp[bdS]
 |i+1=>by simp[bdS,b29,a62]
theorem e7m{c:Cir}{k:Nat}(ord:List Nat)(A:List (Rep×List Nat))(f:Flt)(hf:FltOk c.nodes f)(bH:(kinds c.nodes 0).length=k)(hA:∀a∈A,a.2.length=k)(r1 r2:Nat->Rep):∀i,i<=A.length->(∀v∈bdS c ord A f i,v<=3)∧(i<A.length->PatOk c.nodes ⟨r1 i,inA (xA A) i,r2 i,bdS c ord A f i⟩):=by
 have bw:∀i,i<A.length->(inA (xA A) i).length=k:=λi hi=>b0y (by rw[a5a (z9e hi)];exact hA _ (g0l hi));have key:∀i,i<=A.length->(∀v∈bdS c ord A f i,v<=3):=by
  intro i
  induction i with
  |zero=>intro _ v hv;rw[f4t hv];omega
  |succ i ih=>intro hi;exact d87 c ord f hf ⟨none,inA (xA A) i,none,bdS c ord A f i⟩ ⟨by rw[bH];exact bw i hi,d42 c ord A f i,λv hv=>by have:=b9h A i v hv;omega,ih (by omega)⟩
 exact λi hi=>⟨key i hi,λai=>⟨by rw[bH];exact bw i ai,d42 c ord A f i,λv hv=>by have:=b9h A i v hv;omega,key i hi⟩⟩
theorem f9f(c:Cir)(hc:c.wf){k m:Nat}(ht:Tio c k m)(ord:List Nat)(aH:OrdOf c ord)(A:List (Rep×List Nat))(hA:∀a∈A,a.2.length=k)(f:Flt)(hf:FltOk c.nodes f):Stp c A k m (fn2 c f) (bdO c ord A f) (bdS c ord A f) (bdR c ord A f):=by
 have hO:c.outs≠[]:=by intro e;have:=ht.out;have:=ht.m1;rw[e]at *;simp at *;omega
 have bH:(kinds c.nodes 0).length=k:=by rw[ht.ins];simp
 refine⟨c68 c f,rfl,λi hi d H=>?_,λi=>by unfold bdO b6k;rw[a79,ht.out]⟩;have h:=c7e (d:=d) (H:=H) c hc hO ord aH f hf _ ((e7m ord A f hf bH hA (λ_=>some (some k)) (bdR c ord A f) i (by omega)).2 hi);unfold a7j at h;rw[a92 (b29 c ord f _)]at h;exact h
end Go.UInst
namespace Go.UInst
open Go.Proofs Go.Ax Go.Pc
attribute [local instance] zc2
set_option maxRecDepth 100000
theorem e0p{md val:Nat}{nd pin be:Int}(nh:md≠1):d4q md val nd pin be:=by
 intro c hc k m ht A gp hA VS WA dD dV iy ii dW hf;obtain⟨n,o,rfl,rfl,⟨h,_⟩|hf⟩:=hf
 ·exact absurd h nh
 obtain⟨ord,aH⟩:=d1f _ hc;have m5:=f9f c hc ht ord aH A (λa ha=>(hA a ha).1) _ hf;have hr:=d5a c hc ht ord aH A gp hA VS WA dD dV iy ii dW _ hf _ _ _ _ m5 (λd H=>c3f (d:=d) H c hc _ nh);exact⟨_,d0u 1 (b3k _ _ _ _) (d1i _ _ _ _) hr⟩
end Go.UInst
namespace Go.UInst
open Go.Proofs Go.Ax Go.Pc
variable [ZC]
set_option maxRecDepth 100000
def lI(c:Cir)(A:List (Rep×List Nat))(k:Nat):Nat->AV
 |0=>.nilslice
 |i+1=>gI c A k (i+1)
def lS(S:Nat->List Nat)(R:Nat->Rep):Nat->AV
 |0=>.nilslice
 |i+1=>sl (R i) ((S i).map u8R)
theorem b9c(c:Cir)(A:List (Rep×List Nat))(k i:Nat):refs (lI c A k i)=[]:=by cases i<;>rfl
theorem b9b(S:Nat->List Nat)(R:Nat->Rep)(i:Nat):refs (lS S R i)=[]:=by
 cases i with
 |zero=>rfl
 |succ i=>exact a16 _ _
structure StpS(c:Cir)(A:List (Rep×List Nat))(k m:Nat)(nd:Nat)(pin:Int)(val:Nat)(O S:Nat->List Nat)(R:Nat->Rep):Prop where
 st:∀i,i<A.length->sM 123 [.agg [.islice ((inA (xA A) i).map u8R) (some k),sl (R i) ((S i).map u8R)],.ptr 0 0 0,.ptr 1 0 0,.iptr (ce c),.iptr [.islice [fb 1 nd pin val 0] (some 1)],.ptr 2 0 0] [some (.row 1 [[.bool (decide (i=0))]]),some (.row 1 [[fn1 c]]),some (.row 2 [[lI c A k i,lS S R i]])] =
  some (.agg [a29 (O i),sl (R (i+1)) ((S (i+1)).map u8R)],[some (.row 1 [[.bool false]]),some (.row 1 [[fn1 c]]),some (.row 2 [[.islice ((inA (xA A) i).map u8R) (some k),sl (R i) ((S i).map u8R)]])])
 ol:∀i,(O i).length=m
inductive Shp8S(v:List AV)(M:a03)(aa:List (List AV))(TV OV:AV)(H:a03):Prop
 |a:aa=[]->OV = .nilslice->TV = .ptr 4 0 0->H=M++[some (.row 3 [v])]->Shp8S v M aa TV OV H
 |b:aa≠[]->OV = .slice 4 0 aa.length none->TV = .ptr 5 0 0->H=M++[some (.row 3 aa),some (.row 3 [v])]->Shp8S v M aa TV OV H
 |c:aa≠[]->OV = .slice 4 0 aa.length none->TV = .iptr v->H=M++[some (.row 3 aa)]->Shp8S v M aa TV OV H
end Go.UInst
namespace Go.UInst
set_option maxHeartbeats 200000000
open Go.Proofs Go.Ax Go.Pc
attribute [local instance] zc5
set_option maxRecDepth 100000
theorem d02(c:Cir)(hc:c.wf){k m:Nat}(ht:Tio c k m)(ord:List Nat)(aH:OrdOf c ord)(A:List (Rep×List Nat))(gp:A.length<=8)(hA:∀a∈A,a.2.length=k∧∀v∈a.2,v<=3)(VS:List (List UInt8))(WA:Nat->List Nat)(dD:VS.length=A.length)(dV:∀i a,A[i]?=some a->VS[i]?=some (cyc a.2 (WA i)))(iy:∀i,i<A.length->(WA i).length=m)(ii:∀i,i<A.length->∀w∈WA i,w<=3)(dW:∀s∈VS,VecOk (sgs k m) s)
 (nd:Nat)(pin:Int)(val:Nat)(hf:FltOk c.nodes ⟨0,nd,pin,val,0⟩)(O S:Nat->List Nat)(R:Nat->Rep)(hs:StpS c A k m nd pin val O S R)(vu:sl (R 0) ((S 0).map u8R) = .islice ((List.replicate (kinds c.nodes 14).length 2).map u8R) (some (kinds c.nodes 14).length)) :
 ∃r:AV×a03,(∃H1,(msI WA O m A.length=[]∧r=(.tuple [.nilslice,.int .i64 0],H1))∨(msI WA O m A.length≠[]∧r=(.tuple [.slice 4 0 (msI WA O m A.length).length (some (msI WA O m A.length).length),.int .i64 0],H1)∧a02 H1 4=some (.row 3 (msI WA O m A.length))))∧
 sM 26 [.agg c.enc,.agg (b67 (sgs k m) VS),.islice [fb 1 nd pin val 0] (some 1)] []=some r:=by
 have hO:c.outs≠[]:=by intro e;have:=ht.out;have:=ht.m1;rw[e]at *;simp at *;omega
 have gb:=λ(d:Bool) (H:a03)=>a3l (d:=d) H c hc ht;have bw:=λ(d:Bool) (H:a03)=>a3q (d:=d) H c (by have:=hc.len;omega);have gj:=λ(d:Bool) (H:a03)=>a7v ht.k1 ht.k4 ht.m1 ht.m4 (vs:=VS) (by omega) dW (d:=d) H;have bh:=λ(d:Bool) (H:a03)=>c28 ht.k1 ht.k4 ht.m1 ht.m4 (vs:=VS) (by omega) dW (d:=d) H;rw[dD]at gj bh;have cS:=λ(d:Bool) (H:a03) (c1 c2:Option Nat)=>b40 (d:=d) H (sgs k m) c1 c2 (by have:=a30 k m;have:=ht.k4;have:=ht.m4;omega);have aR:=λ(d:Bool) (H:a03)=>b2q (d:=d) H c hc nd pin val hf;obtain⟨r0,e0⟩:=a4g (kinds c.nodes 0);rw[e0,ht.ins]at bw;obtain⟨t1,t2,t3,t4,t5,t6⟩:=ht;have hn:=hc.len;have cY:=a30 k m;have bH:(kinds c.nodes 0).length=k:=by rw[t1];simp
 obtain⟨V,hV⟩:∃V,c0q VS=V:=⟨_,rfl⟩
 have kY:refs V=[]:=by rw[<-hV];exact b1h _
 have gA:V.storable=true:=by rw[<-hV];cases VS<;>rfl
 have gB:V.cells=[V]:=by rw[<-hV];cases VS<;>rfl
 have iU:V.isJunk=false:=by rw[<-hV];cases VS<;>rfl
 have jA:b67 (sgs k m) VS=[.islice ((sgs k m).map Sgn.row) (some (k+m)),.islice [tmR] (some 1),V]:=by unfold b67;rw[cY,hV]
 rw[jA]at gj bh;rw[jA];simp only[Cir.enc]at gb bw aR⊢;have c3:¬((1024:Int)<A.length):=by omega
 have qd:∀π,ren π V=V:=λπ=>a0b π _ kY;have i4:∀π:Nat->Option Nat,a0g π (.row 4 [ce c]) = .row 4 [ce c]:=λπ=>by simp+decide only[go_sem]
 have jg:a12 (some (.row 4 [ce c]))=[]:=by simp+decide only[go_sem]
 have jL:∀π:Nat->Option Nat,a0g π (.row 3 [[.islice ((sgs k m).map Sgn.row) (some (k+m)),.islice [tmR] (some 1),V]]) = .row 3 [[.islice ((sgs k m).map Sgn.row) (some (k+m)),.islice [tmR] (some 1),V]]:=λπ=>by simp+decide only[go_sem,qd]
 have kZ:a12 (some (.row 3 [[.islice ((sgs k m).map Sgn.row) (some (k+m)),.islice [tmR] (some 1),V]]))=[]:=by simp+decide only[go_sem,kY]
 have d5:=b94 WA O m A.length
 (refine svE Tryz.f26 ?_;simp only[Tryz.f26,gS])
 (repeat first|simp only[ww]|apply xa;simp+decide only[go_sem,gb,gA,gB,iU,c3];rfl;kernel_rfl)
 refine a0m (σ:=Nat) kp26_1 (λj=>[(2,.islice [fb 1 nd pin val 0] (some 1)),(3,.ptr 0 0 0),(4,.ptr 1 0 0),(8,.islice ((sgs k m).map Sgn.row) (some (k+m))),(39,.islice [fb 1 nd pin val 0] (some 1)),(40,.int .i64 1),(41,.int .i64 j)]) (λ_=>[some (.row 4 [ce c]),some (.row 3 [[.islice ((sgs k m).map Sgn.row) (some (k+m)),.islice [tmR] (some 1),V]])]) (λj=>1-j) (λj=>j<=1) 0 ?_ (f2i _) ?_
 ·(simp+decide only[go_sem,a01,a00,i4,jg,jL,kZ]<;>rfl)<;>rfl
 ·intro j hj;by_cases bV:j=0
  ·subst bV
   (repeat first|simp only[ww]|apply xa;simp+decide only[go_sem,aR];rfl;kernel_rfl)
   refine a1m 1 ?_ (by omega) (by omega)
   (simp+decide only[go_sem,a01,a00,i4,jg,jL,kZ]<;>rfl)<;>rfl
  obtain rfl:j=1:=by omega
  have az:=λ(d:Bool)=>c3e (d:=d) (some (.row 4 [ce c])) (some (.row 3 [[.islice ((sgs k m).map Sgn.row) (some (k+m)),.islice [tmR] (some 1),V]])) c hc nd pin val;have d7:=b11 c;have eL:=λπ=>a0b π _ d7
  (repeat first|simp only[ww]|apply xa;simp+decide only[go_sem,gj,bh,cS,az,bw,gA,gB,iU,c3,c10,f3b];rfl;kernel_rfl)
  have v6:=λi=>a8w c A k i;have v7:=λi π=>a0b π _ (a8w c A k i);have iW:=λi=>a16 (R i) ((S i).map u8R);have oA:=λi π=>a0b π _ (a16 (R i) ((S i).map u8R));have v9:=λi=>b9c c A k i;have wa:=λi π=>a0b π _ (b9c c A k i);have v8:=λi=>b9b S R i;have qM:=λi π=>a0b π _ (b9b S R i);have qj:=λn=>b3k WA O m n;have sL:=λn=>b94 WA O m n;refine a0m (σ:=Nat) kp26_4 (λi=>[(16,.ptr 0 0 0),(17,.int .i64 k),(18,grV 4 (msI WA O m i)),(82,.islice (VS.map vcR) (some A.length)),(83,.int .i64 A.length),(84,.int .i64 i)]) (λi=>some (.row 3 [[.func (.func 123) [] [.ptr 1 0 0,.ptr 2 0 0,.iptr (ce c),.iptr [.islice [fb 1 nd pin val 0] (some 1)],.ptr 3 0 0],gI c A k i,sl (R i) ((S i).map u8R)]])::some (.row 1 [[.bool (decide (i=0))]])::some (.row 1 [[fn1 c]])::some (.row 2 [[lI c A k i,lS S R i]])::grH 3 (msI WA O m i)) (λi=>A.length-i) (λi=>i<=A.length) 0 ?_ (f2i _) ?_
  ·have e:msI WA O m 0=[]:=rfl;rw[e,a0r,a0s];rw[vu];show _=some (_,(some (AObj.row 3 [[.func (.func 123) [] [.ptr 1 0 0,.ptr 2 0 0,.iptr (ce c),.iptr [.islice [fb 1 nd pin val 0] (some 1)],.ptr 3 0 0],.islice ((List.replicate (kinds c.nodes 0).length 2).map u8R) (some (kinds c.nodes 0).length),_]])::some (AObj.row 1 [[.bool true]])::some (AObj.row 1 [[fn1 c]])::some (AObj.row 2 [[.nilslice,.nilslice]])::_:a03))
   (simp+decide only[go_sem,a01,a00,i4,jg,jL,kZ,d7,eL,dD]<;>rfl)<;>rfl
  ·intro i hi;by_cases ai:i<A.length
   ·obtain⟨a,ha⟩:∃a,A[i]?=some a:=⟨_,z9e ai⟩
    have ls:VS[i]?=some (cyc a.2 (WA i)):=dV i a ha;obtain⟨nG,pY⟩:=hA a (c11 ha);have d1:(i:Int)<A.length:=by omega
    have dk:∀s,vcR s=[.int .i64 0,.str s,.int .i64 1]:=λs=>rfl;have aD:k<=1000000000:=by omega
    have jM:=a8w c A k i;have sI:=hs.st i ai;have fF:=qj i;have gR:=sL i;have fk:=e1l WA O m i;have eH:=λ(d:Bool) (K:a03)=>c4f (d:=d) K c nd pin val (gI c A k i) (sl (R i) ((S i).map u8R)) (a29 (O i)) (sl (R (i+1)) ((S (i+1)).map u8R)) (lI c A k i) (lS S R i) (decide (i=0)) false (fn1 c) (inA (xA A) i) (some k) d7 (a8w c A k i) (a16 _ _) (b9c c A k i) (b9b S R i) (by simp only[go_sem]) (by simp only[go_sem]) (by simp only[go_sem]) (a11 _) (by simp only[go_sem]) (a0w _) (a16 _ _) (b26 _) (by simp only[go_sem]) (c4k _) (by simp only[go_sem]) sI;have e3:AV.islice ((inA (xA A) i).map u8R) (some k)=gI c A k (i+1):=rfl;rw[c6l (hs.ol i) t5,e3]at eH;have e6:=a8w c A k (i+1);have sF:(WA i).length=m:=iy i ai;have nN:∀w∈WA i,w<=3:=ii i ai;have di:=hs.ol i;have ow:lI c A k (i+1)=gI c A k (i+1):=rfl;have ou:lS S R (i+1)=sl (R i) ((S i).map u8R):=rfl;have mE:decide (i+1=0)=false:=f6w (by omega);have mP:=b9c c A k i;have mO:=b9b S R i;have bA:=a16 (R i) ((S i).map u8R);have cu:=a16 (R (i+1)) ((S (i+1)).map u8R);obtain⟨MI,kI⟩:∃MI,gI c A k i=MI:=⟨_,rfl⟩
    obtain⟨MJ,cQ⟩:∃MJ,gI c A k (i+1)=MJ:=⟨_,rfl⟩
    obtain⟨SI,kF⟩:∃SI,sl (R i) ((S i).map u8R)=SI:=⟨_,rfl⟩
    obtain⟨SJ,ip⟩:∃SJ,sl (R (i+1)) ((S (i+1)).map u8R)=SJ:=⟨_,rfl⟩
    obtain⟨LI,nT⟩:∃LI,lI c A k i=LI:=⟨_,rfl⟩
    obtain⟨LS,nS⟩:∃LS,lS S R i=LS:=⟨_,rfl⟩
    obtain⟨GG,lX⟩:∃GG,fn1 c=GG:=⟨_,rfl⟩
    obtain⟨bb,tR⟩:∃bb,decide (i=0)=bb:=⟨_,rfl⟩
    rw[kI]at jM;rw[cQ]at e6;rw[kF]at bA;rw[ip]at cu;rw[nT]at mP;rw[nS]at mO;rw[lX]at d7 eL;rw[kI,kF,ip,nT,nS,lX,tR,cQ]at eH;rw[kI,kF,nT,nS,lX,tR];have qr:=λπ=>a0b π _ jM;have fQ:=λπ=>a0b π _ e6;have eY:=λπ=>a0b π _ bA;have fP:=λπ=>a0b π _ cu;have qu:=λπ=>a0b π _ mP;have qt:=λπ=>a0b π _ mO;have dh:∀X:Option AObj,[some (.row 3 [[.func (.func 123) [] [.ptr 1 0 0,.ptr 2 0 0,.iptr (ce c),.iptr [.islice [fb 1 nd pin val 0] (some 1)],.ptr 3 0 0],MJ,SJ]]),some (.row 1 [[.bool false]]),some (.row 1 [[GG]]),some (.row 2 [[MJ,SI]])]++[X]=[some (.row 3 [[.func (.func 123) [] [.ptr 1 0 0,.ptr 2 0 0,.iptr (ce c),.iptr [.islice [fb 1 nd pin val 0] (some 1)],.ptr 3 0 0],MJ,SJ]]),some (.row 1 [[.bool false]]),some (.row 1 [[GG]]),some (.row 2 [[MJ,SI]]),X]:=λ_=>rfl;have dg:∀X Y:Option AObj,[some (.row 3 [[.func (.func 123) [] [.ptr 1 0 0,.ptr 2 0 0,.iptr (ce c),.iptr [.islice [fb 1 nd pin val 0] (some 1)],.ptr 3 0 0],MJ,SJ]]),some (.row 1 [[.bool false]]),some (.row 1 [[GG]]),some (.row 2 [[MJ,SI]])]++[X,Y]=[some (.row 3 [[.func (.func 123) [] [.ptr 1 0 0,.ptr 2 0 0,.iptr (ce c),.iptr [.islice [fb 1 nd pin val 0] (some 1)],.ptr 3 0 0],MJ,SJ]]),some (.row 1 [[.bool false]]),some (.row 1 [[GG]]),some (.row 2 [[MJ,SI]]),X,Y]:=λ_ _=>rfl;obtain⟨aa,aA⟩:∃aa,msI WA O m i=aa:=⟨_,rfl⟩
    rw[aA]at fF fk gR⊢;obtain⟨z,jT⟩:∃z:List AV,[AV.int .u8 0]=z:=⟨_,rfl⟩
    have cJ:a0d z=[]:=by rw[<-jT];rfl
    have gu:1<=z.length:=by rw[<-jT];exact f2q 1
    have mS:z.drop 1=[]:=by rw[<-jT];rfl
    obtain⟨g,hg⟩:∃g:Nat->List AV,g=λj=>u8R ((inA (xA A) i).getD j 0):=⟨_,rfl⟩
    have eK:∀j,a0d (g j)=[]:=λj=>by rw[hg];rfl
    have fw:=λj=>a2y (f:=g) (z:=z) (n:=k) (i:=j) cJ eK;have fD:=λj=>a06 (fw j);have ln:=λj π=>a05 π (fw j);have lR:FlatR [[AV.int .i64 0,AV.str (cyc a.2 (WA i)),AV.int .i64 1]]:=FlatR.cons rfl FlatR.nil;have jj:upT g z k k=(inA (xA A) i).map u8R:=by
     rw[b3v,hg];have hl:(inA (xA A) i).length=k:=b0y (by rw[a5a ha];exact nG);apply f4x;intro q;rw[f1l,f1l];by_cases hq:q<k
     ·rw[f6v hq,z9e (by omega)];simp only[f2k,f2p,z9e (show q<(inA (xA A) i).length by omega),f4v]
     ·rw[f2s (by simp;omega),f2s (by omega)];rfl
    have iA:=a57 (f:=g) (z:=z) (n:=k) (i:=k);have l9:=fw k;rw[jj]at iA l9;have dF:((inA (xA A) i).map u8R).take k=(inA (xA A) i).map u8R:=f1k (by omega);have dS:=λm d=>a0z (m:=m) (d:=d) l9;obtain⟨W,hW⟩:∃W,WA i=W:=⟨_,rfl⟩
    obtain⟨OO,sK⟩:∃OO,O i=OO:=⟨_,rfl⟩
    rw[hW]at ls fk lR sF nN;rw[sK]at eH fk di;obtain⟨cy,fx⟩:∃cy,cyc a.2 W=cy:=⟨_,rfl⟩
    rw[fx]at ls lR;cases aa with
    |nil=>
     rw[a0r,a0s];simp only[f1e]at fk
     (repeat first|simp only[ww]|apply xa;simp+decide only[go_sem,d1,ai,ls,dk,aD,c10];rfl;kernel_rfl)
     rw[jT];refine a8h kp26_6 rfl 5 rfl (σ:=Nat) (λj=>[(16,.ptr 0 0 0),(17,.int .i64 k),(18,.nilslice),(19,.int .i64 i),(20,.ptr 4 0 0),(21,.slice 5 0 k (some k)),(82,.islice (VS.map vcR) (some A.length)),(83,.int .i64 A.length),(84,.int .i64 i),(92,.int .i64 k),(93,.int .i64 j),(1000005,.junk)])
      (λj=>[some (.row 3 [[.func (.func 123) [] [.ptr 1 0 0,.ptr 2 0 0,.iptr (ce c),.iptr [.islice [fb 1 nd pin val 0] (some 1)],.ptr 3 0 0],MI,SI]]),some (.row 1 [[.bool bb]]),some (.row 1 [[GG]]),some (.row 2 [[LI,LS]]),some (.row 3 [[AV.int .i64 0,AV.str cy,AV.int .i64 1]]),some (.row 1 (upT g z k j))]) (λj=>k-j) (λj=>j<=k) 0 ?_ (f2i _) ?_
     ·rw[<-c36 (f:=g)]
      (simp+decide only[go_sem,a01,a00,jM,qr,bA,eY,mP,qu,mO,qt,d7,eL,fD,ln]<;>rfl)<;>rfl
     ·intro j hj;by_cases bg:j<k
      ·have d2:(j:Int)<k:=by omega
       have jV:=wI1 (n:=j) (by omega);obtain⟨v,hv⟩:∃v,a.2[j]?=some v:=⟨_,z9e (by omega)⟩
       have iz:=pY v (c11 hv);have bR:cy[j]?=some (a4o 48 49 v):=by rw[<-fx];unfold cyc;rw[f2l (by rw[c10];omega),f1l,hv];rfl
       have bd:=(f1i.1 bR).1;have gG:=λ(d:Bool) (H:a03)=>b35 (d:=d) H v iz;have aF:=b05 (f:=g) (z:=z) bg;have bO:=b6t (f:=g) (z:=z) bg;have dO:=a57 (f:=g) (z:=z) (n:=k) (i:=j);have nu:g j=[.int .u8 (xz v)]:=by rw[hg];show u8R _=_;rw[b7p,a5a ha,f2p,f1l,hv];rfl
       rw[nu]at aF
       (repeat first|simp only[ww]|apply xa;simp+decide only[go_sem,d2,bg,bR,bd,gG,aF,bO,dO,jV,gu,mS];rfl;kernel_rfl)
       refine a1m (j+1) ?_ (by omega) (by omega)
       (simp+decide only[go_sem,a01,a00,jM,qr,bA,eY,mP,qu,mO,qt,d7,eL,fD,ln]<;>rfl)<;>rfl
      ·obtain rfl:j=k:=by omega
       have d2:¬(j:Int)<j:=by omega
       rw[jj];have la:∀Y:Option AObj,b0q 5 [some (.row 3 [[.func (.func 123) [] [.ptr 1 0 0,.ptr 2 0 0,.iptr (ce c),.iptr [.islice [fb 1 nd pin val 0] (some 1)],.ptr 3 0 0],MI,SI]]),some (.row 1 [[.bool bb]]),some (.row 1 [[GG]]),some (.row 2 [[LI,LS]]),some (.row 3 [[AV.int .i64 0,AV.str cy,AV.int .i64 1]]),Y]=[some (.row 3 [[.func (.func 123) [] [.ptr 1 0 0,.ptr 2 0 0,.iptr (ce c),.iptr [.islice [fb 1 nd pin val 0] (some 1)],.ptr 3 0 0],MI,SI]]),some (.row 1 [[.bool bb]]),some (.row 1 [[GG]]),some (.row 2 [[LI,LS]]),some (.row 3 [[AV.int .i64 0,AV.str cy,AV.int .i64 1]])]:=λY=>by unfold b0q;simp+decide only[go_sem,f3c,f2j,f1a,f1g,f2k,a90,a0i _ _ _ _ jM,a0i _ _ _ _ bA,a0i _ _ _ _ mP,a0i _ _ _ _ mO,a0i _ _ _ _ d7,a2o lR]
       (repeat first|simp only[ww]|apply xa;simp+decide only[go_sem,d2];rfl;kernel_rfl)
       rw[c8o];simp only[f1h,f2u,la];simp+decide only[go_sem,dS,dF,iA];rw[e3,cQ];have gm:=λ(d:Bool)=>eH d [some (.row 3 [[AV.int .i64 0,AV.str cy,AV.int .i64 1]])]
       (repeat first|simp only[ww]|apply xa;simp+decide only[go_sem,gm,c10,di];rfl;kernel_rfl)
       refine a3i kp26_8 (λN F Hx=>∃(q:Nat) (TV OV:AV),N=m-q∧q<=m∧F=[(16,.ptr 0 0 0),(17,.int .i64 j),(18,OV),(19,.int .i64 i),(20,TV),(82,.islice (VS.map vcR) (some A.length)),(83,.int .i64 A.length),(84,.int .i64 i),(107,.islice (OO.map u8R) (some m)),(108,.int .i64 m),(109,.int .i64 q)]∧Shp8S [AV.int .i64 0,AV.str cy,AV.int .i64 1] [some (.row 3 [[.func (.func 123) [] [.ptr 1 0 0,.ptr 2 0 0,.iptr (ce c),.iptr [.islice [fb 1 nd pin val 0] (some 1)],.ptr 3 0 0],MJ,SJ]]),some (.row 1 [[.bool false]]),some (.row 1 [[GG]]),some (.row 2 [[MJ,SI]])] (msQ i W OO q) TV OV Hx) m ?_ ?_
       ·refine⟨_,[some (.row 3 [[.func (.func 123) [] [.ptr 1 0 0,.ptr 2 0 0,.iptr (ce c),.iptr [.islice [fb 1 nd pin val 0] (some 1)],.ptr 3 0 0],MJ,SJ]]),some (.row 1 [[.bool false]]),some (.row 1 [[GG]]),some (.row 2 [[MJ,SI]]),some (.row 3 [[AV.int .i64 0,AV.str cy,AV.int .i64 1]])],?_,0,.ptr 4 0 0,.nilslice,rfl,f2i _,rfl,?_⟩
        rotate_left
        ·rw[d1s];exact .a rfl rfl rfl rfl
        ·(simp+decide only[go_sem,a01,a00,e6,fQ,bA,eY,cu,fP,d7,eL,di,c10]<;>rfl)<;>rfl
       ·rintro N F Hx ⟨q,TV,OV,rfl,hq,rfl,eQ⟩
        have aI:FlatR (msQ i W OO q):=b12 i W OO q;have bT:(msQ i W OO q).length<=1000:=by have:=b4q i W OO q;have h8:i*m<=7*4:=Nat.mul_le_mul (by omega) (by omega);omega
        have dv:=d1r i W OO q;by_cases bK:q<m
        ·have d3:(q:Int)<m:=by omega
         have dq:=wI1 (n:=q) (by omega);have eu:IntKind.i64.wrap ((j:Int)+q)=((j+q:Nat):Int):=by rw[w64 (by omega) (by omega)];omega
         obtain⟨gg,dQ⟩:∃gg,OO[q]?=some gg:=⟨_,z9e (by omega)⟩
         obtain⟨w,hw⟩:∃w,W[q]?=some w:=⟨_,z9e (by omega)⟩
         have mU:=nN w (c11 hw);rw[f2p,f2p,dQ,hw]at dv;simp only[f4v]at dv;have bR:cy[j+q]?=some (a4o 76 72 w):=by rw[<-fx];unfold cyc;rw[f2r (by rw[c10];omega),c10,nG,f7g,f1l,hw];rfl
         have bd:=(f1i.1 bR).1;have ew:u8R gg=[.int .u8 gg]:=rfl;have cL:=b3f (w:=w) (g:=gg) mU;generalize a4o 76 72 w=cb at bR cL;rcases cL with ⟨hm,hb⟩|⟨hm,hb⟩
         ·rw[hm,f2w rfl]at dv;have fh:msQ i W OO (q+1)=(msQ i W OO q)++[a8e i q gg]:=dv;cases eQ with
          |a h1 h2 h3 h4=>
           subst h2 h3 h4;simp only[dh,dg];rcases hb with ⟨b1,b2⟩|⟨b1,b2⟩
           all_goals
            subst b2
            (repeat first|simp only[ww]|apply xa;simp+decide only[go_sem,d3,bK,dQ,ew,eu,bR,bd,b1,dq];rfl;kernel_rfl)
            refine a0y (m-(q+1)) (by omega) ⟨_,_,?_,q+1,.ptr 5 0 0,.slice 4 0 1 none,rfl,bK,rfl,by rw[fh,h1];exact .b (by simp) rfl rfl rfl⟩
            (simp+decide only[go_sem,a01,a00,e6,fQ,bA,eY,cu,fP,d7,eL,di,c10,a8e]<;>rfl)<;>rfl
          |b h1 h2 h3 h4=>
           obtain⟨y,ys,hy⟩:∃y ys,msQ i W OO q=y::ys:=f4g h1;rw[hy]at h2 h4 fh aI bT;have fc:a0d y=[]:=aI y (f7l ..);have fa:FlatR ys:=λr hr=>aI r (f6r _ hr);have bo:=a06 fa;have bp:=λπ=>a05 π fa;have iw:∀π,y.map (ren π)=y:=λπ=>by have h:=a05 π (FlatR.cons fc FlatR.nil);simpa using h
           simp only[f1c]at h2 bT;have iv:ys.length+1+1<=1000000000:=by omega
           subst h2 h3 h4;simp only[dh,dg];rcases hb with ⟨b1,b2⟩|⟨b1,b2⟩
           all_goals
            subst b2
            (repeat first|simp only[ww]|apply xa;simp+decide only[go_sem,d3,bK,dQ,ew,eu,bR,bd,b1,dq,iv,f1c];rfl;kernel_rfl)
            refine a0y (m-(q+1)) (by omega) ⟨_,_,?_,q+1,.ptr 5 0 0,.slice 4 0 (ys.length+1+1) none,rfl,bK,rfl,by rw[fh];exact .b (by simp) (by simp) rfl rfl⟩
            (simp+decide only[go_sem,a01,a00,e6,fQ,bA,eY,cu,fP,d7,eL,bo,bp,fc,iw,di,f2o,f2t,f1a,f1g,f7r,f4k,f7t,c10,a8e]<;>rfl)<;>rfl
          |c h1 h2 h3 h4=>
           obtain⟨y,ys,hy⟩:∃y ys,msQ i W OO q=y::ys:=f4g h1;rw[hy]at h2 h4 fh aI bT;have fc:a0d y=[]:=aI y (f7l ..);have fa:FlatR ys:=λr hr=>aI r (f6r _ hr);have bo:=a06 fa;have bp:=λπ=>a05 π fa;have iw:∀π,y.map (ren π)=y:=λπ=>by have h:=a05 π (FlatR.cons fc FlatR.nil);simpa using h
           simp only[f1c]at h2 bT;have iv:ys.length+1+1<=1000000000:=by omega
           subst h2 h3 h4;simp only[dh,dg];rcases hb with ⟨b1,b2⟩|⟨b1,b2⟩
           all_goals
            subst b2
            (repeat first|simp only[ww]|apply xa;simp+decide only[go_sem,d3,bK,dQ,ew,eu,bR,bd,b1,dq,iv,f1c];rfl;kernel_rfl)
            refine a0y (m-(q+1)) (by omega) ⟨_,_,?_,q+1,.iptr [AV.int .i64 0,AV.str cy,AV.int .i64 1],.slice 4 0 (ys.length+1+1) none,rfl,bK,rfl,by rw[fh];exact .c (by simp) (by simp) rfl rfl⟩
            (simp+decide only[go_sem,a01,a00,e6,fQ,bA,eY,cu,fP,d7,eL,bo,bp,fc,iw,di,f2o,f2t,f1a,f1g,f7r,f4k,f7t,c10,a8e]<;>rfl)<;>rfl
         ·rw[hm,f2m (by decide),f1b]at dv;rw[<-dv]at eQ;cases eQ with
          |a h1 h2 h3 h4=>
           subst h2 h3 h4;simp only[dh,dg];rcases hb with ⟨b1,b2⟩|⟨b1,b2⟩|⟨b1,b2⟩
           all_goals
            (repeat first|simp only[ww]|apply xa;simp+decide only[go_sem,d3,bK,dQ,ew,eu,bR,bd,b1,b2,dq];rfl;kernel_rfl)
            refine a0y (m-(q+1)) (by omega) ⟨_,_,?_,q+1,.ptr 4 0 0,.nilslice,rfl,bK,rfl,.a h1 rfl rfl rfl⟩
            (simp+decide only[go_sem,a01,a00,e6,fQ,bA,eY,cu,fP,d7,eL,di,c10]<;>rfl)<;>rfl
          |b h1 h2 h3 h4=>
           rw[<-dv]at aI;obtain⟨RR,eV⟩:∃RR,msQ i W OO (q+1)=RR:=⟨_,rfl⟩
           rw[eV]at aI h1 h2 h4;have bo:=a06 aI;have bp:=λπ=>a05 π aI;subst h2 h3 h4;simp only[dh,dg];rcases hb with ⟨b1,b2⟩|⟨b1,b2⟩|⟨b1,b2⟩
           all_goals
            (repeat first|simp only[ww]|apply xa;simp+decide only[go_sem,d3,bK,dQ,ew,eu,bR,bd,b1,b2,dq];rfl;kernel_rfl)
            refine a0y (m-(q+1)) (by omega) ⟨_,_,?_,q+1,.ptr 5 0 0,_,rfl,bK,rfl,by rw[eV];exact .b h1 rfl rfl rfl⟩
            (simp+decide only[go_sem,a01,a00,e6,fQ,bA,eY,cu,fP,d7,eL,bo,bp,di,c10]<;>rfl)<;>rfl
          |c h1 h2 h3 h4=>
           rw[<-dv]at aI;obtain⟨RR,eV⟩:∃RR,msQ i W OO (q+1)=RR:=⟨_,rfl⟩
           rw[eV]at aI h1 h2 h4;have bo:=a06 aI;have bp:=λπ=>a05 π aI;subst h2 h3 h4;simp only[dh,dg];rcases hb with ⟨b1,b2⟩|⟨b1,b2⟩|⟨b1,b2⟩
           all_goals
            (repeat first|simp only[ww]|apply xa;simp+decide only[go_sem,d3,bK,dQ,ew,eu,bR,bd,b1,b2,dq];rfl;kernel_rfl)
            refine a0y (m-(q+1)) (by omega) ⟨_,_,?_,q+1,.iptr [AV.int .i64 0,AV.str cy,AV.int .i64 1],_,rfl,bK,rfl,by rw[eV];exact .c h1 rfl rfl rfl⟩
            (simp+decide only[go_sem,a01,a00,e6,fQ,bA,eY,cu,fP,d7,eL,bo,bp,di,c10]<;>rfl)<;>rfl
        ·obtain rfl:q=m:=by omega
         have d3:¬(q:Int)<q:=by omega
         have aS:=wI1 (n:=i) (by omega);cases eQ with
         |a h1 h2 h3 h4=>
          subst h2 h3 h4;simp only[dh,dg]
          (repeat first|simp only[ww]|apply xa;simp+decide only[go_sem,d3,aS];rfl;kernel_rfl)
          refine a1m (i+1) ?_ (by omega) (by omega);simp only[ow,ou,mE,cQ,kF,ip,lX,fk,h1,a0r,a0s]
          (simp+decide only[go_sem,a01,a00,e6,fQ,bA,eY,cu,fP,d7,eL]<;>rfl)<;>rfl
         |b h1 h2 h3 h4=>
          obtain⟨y,ys,hy⟩:∃y ys,msQ i W OO q=y::ys:=f4g h1;have bo:=a06 aI;have bp:=λπ=>a05 π aI;rw[hy]at h2 h4 bo bp;simp only[f4k,f1a]at bo bp;simp only[f1c]at h2;subst h2 h3 h4;simp only[dh,dg]
          (repeat first|simp only[ww]|apply xa;simp+decide only[go_sem,d3,aS];rfl;kernel_rfl)
          refine a1m (i+1) ?_ (by omega) (by omega);simp only[ow,ou,mE,cQ,kF,ip,lX,fk,hy,a09,a0a]
          (simp+decide only[go_sem,a01,a00,e6,fQ,bA,eY,cu,fP,d7,eL,bo,bp]<;>rfl)<;>rfl
         |c h1 h2 h3 h4=>
          obtain⟨y,ys,hy⟩:∃y ys,msQ i W OO q=y::ys:=f4g h1;have bo:=a06 aI;have bp:=λπ=>a05 π aI;rw[hy]at h2 h4 bo bp;simp only[f4k,f1a]at bo bp;simp only[f1c]at h2;subst h2 h3 h4;simp only[dh,dg]
          (repeat first|simp only[ww]|apply xa;simp+decide only[go_sem,d3,aS];rfl;kernel_rfl)
          refine a1m (i+1) ?_ (by omega) (by omega);simp only[ow,ou,mE,cQ,kF,ip,lX,fk,hy,a09,a0a]
          (simp+decide only[go_sem,a01,a00,e6,fQ,bA,eY,cu,fP,d7,eL,bo,bp]<;>rfl)<;>rfl
    |cons x rs=>
     have dl:=a06 fF;have bW:=λπ=>a05 π fF;simp only[f4k,f1a]at dl bW;simp only[f1c]at gR;rw[a09,a0a]
     (repeat first|simp only[ww]|apply xa;simp+decide only[go_sem,d1,ai,ls,dk,aD,c10];rfl;kernel_rfl)
     rw[jT];refine a8h kp26_6 rfl 5 rfl (σ:=Nat) (λj=>[(16,.ptr 0 0 0),(17,.int .i64 k),(18,.slice 4 0 (rs.length+1) none),(19,.int .i64 i),(20,.ptr 5 0 0),(21,.slice 6 0 k (some k)),(82,.islice (VS.map vcR) (some A.length)),(83,.int .i64 A.length),(84,.int .i64 i),(92,.int .i64 k),(93,.int .i64 j),(1000005,.junk)])
      (λj=>[some (.row 3 [[.func (.func 123) [] [.ptr 1 0 0,.ptr 2 0 0,.iptr (ce c),.iptr [.islice [fb 1 nd pin val 0] (some 1)],.ptr 3 0 0],MI,SI]]),some (.row 1 [[.bool bb]]),some (.row 1 [[GG]]),some (.row 2 [[LI,LS]]),some (.row 3 (x::rs)),some (.row 3 [[AV.int .i64 0,AV.str cy,AV.int .i64 1]]),some (.row 1 (upT g z k j))]) (λj=>k-j) (λj=>j<=k) 0 ?_ (f2i _) ?_
     ·rw[<-c36 (f:=g)]
      (simp+decide only[go_sem,a01,a00,jM,qr,bA,eY,mP,qu,mO,qt,d7,eL,dl,bW,fD,ln]<;>rfl)<;>rfl
     ·intro j hj;by_cases bg:j<k
      ·have d2:(j:Int)<k:=by omega
       have jV:=wI1 (n:=j) (by omega);obtain⟨v,hv⟩:∃v,a.2[j]?=some v:=⟨_,z9e (by omega)⟩
       have iz:=pY v (c11 hv);have bR:cy[j]?=some (a4o 48 49 v):=by rw[<-fx];unfold cyc;rw[f2l (by rw[c10];omega),f1l,hv];rfl
       have bd:=(f1i.1 bR).1;have gG:=λ(d:Bool) (H:a03)=>b35 (d:=d) H v iz;have aF:=b05 (f:=g) (z:=z) bg;have bO:=b6t (f:=g) (z:=z) bg;have dO:=a57 (f:=g) (z:=z) (n:=k) (i:=j);have nu:g j=[.int .u8 (xz v)]:=by rw[hg];show u8R _=_;rw[b7p,a5a ha,f2p,f1l,hv];rfl
       rw[nu]at aF
       (repeat first|simp only[ww]|apply xa;simp+decide only[go_sem,d2,bg,bR,bd,gG,aF,bO,dO,jV,gu,mS];rfl;kernel_rfl)
       refine a1m (j+1) ?_ (by omega) (by omega)
       (simp+decide only[go_sem,a01,a00,jM,qr,bA,eY,mP,qu,mO,qt,d7,eL,dl,bW,fD,ln]<;>rfl)<;>rfl
      ·obtain rfl:j=k:=by omega
       have d2:¬(j:Int)<j:=by omega
       rw[jj];have la:∀Y:Option AObj,b0q 5 [some (.row 3 [[.func (.func 123) [] [.ptr 1 0 0,.ptr 2 0 0,.iptr (ce c),.iptr [.islice [fb 1 nd pin val 0] (some 1)],.ptr 3 0 0],MI,SI]]),some (.row 1 [[.bool bb]]),some (.row 1 [[GG]]),some (.row 2 [[LI,LS]]),some (.row 3 (x::rs)),some (.row 3 [[AV.int .i64 0,AV.str cy,AV.int .i64 1]]),Y]=[some (.row 3 [[.func (.func 123) [] [.ptr 1 0 0,.ptr 2 0 0,.iptr (ce c),.iptr [.islice [fb 1 nd pin val 0] (some 1)],.ptr 3 0 0],MI,SI]]),some (.row 1 [[.bool bb]]),some (.row 1 [[GG]]),some (.row 2 [[LI,LS]]),some (.row 3 (x::rs))]:=λY=>by unfold b0q;simp+decide only[go_sem,f3c,f2j,f1a,f1g,f2k,a90,a0i _ _ _ _ jM,a0i _ _ _ _ bA,a0i _ _ _ _ mP,a0i _ _ _ _ mO,a0i _ _ _ _ d7,a2o lR,a2o fF]
       (repeat first|simp only[ww]|apply xa;simp+decide only[go_sem,d2];rfl;kernel_rfl)
       rw[c8o];simp only[f1h,f2u,la];simp+decide only[go_sem,dS,dF,iA];rw[e3,cQ];have gm:=λ(d:Bool)=>eH d [some (.row 3 (x::rs))]
       (repeat first|simp only[ww]|apply xa;simp+decide only[go_sem,gm,c10,di];rfl;kernel_rfl)
       refine a3i kp26_8 (λN F Hx=>∃(q:Nat) (TV OV:AV),N=m-q∧q<=m∧F=[(16,.ptr 0 0 0),(17,.int .i64 j),(18,OV),(19,.int .i64 i),(20,TV),(82,.islice (VS.map vcR) (some A.length)),(83,.int .i64 A.length),(84,.int .i64 i),(107,.islice (OO.map u8R) (some m)),(108,.int .i64 m),(109,.int .i64 q)]∧Shp8S [AV.int .i64 0,AV.str cy,AV.int .i64 1] [some (.row 3 [[.func (.func 123) [] [.ptr 1 0 0,.ptr 2 0 0,.iptr (ce c),.iptr [.islice [fb 1 nd pin val 0] (some 1)],.ptr 3 0 0],MJ,SJ]]),some (.row 1 [[.bool false]]),some (.row 1 [[GG]]),some (.row 2 [[MJ,SI]])] ((x::rs)++msQ i W OO q) TV OV Hx) m ?_ ?_
       ·refine⟨_,[some (.row 3 [[.func (.func 123) [] [.ptr 1 0 0,.ptr 2 0 0,.iptr (ce c),.iptr [.islice [fb 1 nd pin val 0] (some 1)],.ptr 3 0 0],MJ,SJ]]),some (.row 1 [[.bool false]]),some (.row 1 [[GG]]),some (.row 2 [[MJ,SI]]),some (.row 3 (x::rs))],?_,0,.iptr [AV.int .i64 0,AV.str cy,AV.int .i64 1],.slice 4 0 (rs.length+1) none,rfl,f2i _,rfl,?_⟩
        rotate_left
        ·rw[d1s];exact .c (by simp) (by simp) rfl (by simp)
        ·(simp+decide only[go_sem,a01,a00,e6,fQ,bA,eY,cu,fP,d7,eL,dl,bW,di,c10]<;>rfl)<;>rfl
       ·rintro N F Hx ⟨q,TV,OV,rfl,hq,rfl,eQ⟩
        have aI:FlatR ((x::rs)++msQ i W OO q):=fF.append (b12 i W OO q);have bT:((x::rs)++msQ i W OO q).length<=1000:=by have:=b4q i W OO q;have h8:i*m<=7*4:=Nat.mul_le_mul (by omega) (by omega);rw[f2n];simp only[f1c,f1h];omega
        have dv:=d1r i W OO q;by_cases bK:q<m
        ·have d3:(q:Int)<m:=by omega
         have dq:=wI1 (n:=q) (by omega);have eu:IntKind.i64.wrap ((j:Int)+q)=((j+q:Nat):Int):=by rw[w64 (by omega) (by omega)];omega
         obtain⟨gg,dQ⟩:∃gg,OO[q]?=some gg:=⟨_,z9e (by omega)⟩
         obtain⟨w,hw⟩:∃w,W[q]?=some w:=⟨_,z9e (by omega)⟩
         have mU:=nN w (c11 hw);rw[f2p,f2p,dQ,hw]at dv;simp only[f4v]at dv;have bR:cy[j+q]?=some (a4o 76 72 w):=by rw[<-fx];unfold cyc;rw[f2r (by rw[c10];omega),c10,nG,f7g,f1l,hw];rfl
         have bd:=(f1i.1 bR).1;have ew:u8R gg=[.int .u8 gg]:=rfl;have cL:=b3f (w:=w) (g:=gg) mU;generalize a4o 76 72 w=cb at bR cL;rcases cL with ⟨hm,hb⟩|⟨hm,hb⟩
         ·rw[hm,f2w rfl]at dv;have fh:(x::rs)++msQ i W OO (q+1)=((x::rs)++msQ i W OO q)++[a8e i q gg]:=by rw[dv,e12]
          cases eQ with
          |a h1 h2 h3 h4=>
           subst h2 h3 h4;simp only[dh,dg];rcases hb with ⟨b1,b2⟩|⟨b1,b2⟩
           all_goals
            subst b2
            (repeat first|simp only[ww]|apply xa;simp+decide only[go_sem,d3,bK,dQ,ew,eu,bR,bd,b1,dq];rfl;kernel_rfl)
            refine a0y (m-(q+1)) (by omega) ⟨_,_,?_,q+1,.ptr 5 0 0,.slice 4 0 1 none,rfl,bK,rfl,by rw[fh,h1];exact .b (by simp) rfl rfl rfl⟩
            (simp+decide only[go_sem,a01,a00,e6,fQ,bA,eY,cu,fP,d7,eL,di,c10,a8e]<;>rfl)<;>rfl
          |b h1 h2 h3 h4=>
           obtain⟨y,ys,hy⟩:∃y ys,(x::rs)++msQ i W OO q=y::ys:=f4g h1;rw[hy]at h2 h4 fh aI bT;have fc:a0d y=[]:=aI y (f7l ..);have fa:FlatR ys:=λr hr=>aI r (f6r _ hr);have bo:=a06 fa;have bp:=λπ=>a05 π fa;have iw:∀π,y.map (ren π)=y:=λπ=>by have h:=a05 π (FlatR.cons fc FlatR.nil);simpa using h
           simp only[f1c]at h2 bT;have iv:ys.length+1+1<=1000000000:=by omega
           subst h2 h3 h4;simp only[dh,dg];rcases hb with ⟨b1,b2⟩|⟨b1,b2⟩
           all_goals
            subst b2
            (repeat first|simp only[ww]|apply xa;simp+decide only[go_sem,d3,bK,dQ,ew,eu,bR,bd,b1,dq,iv,f1c];rfl;kernel_rfl)
            refine a0y (m-(q+1)) (by omega) ⟨_,_,?_,q+1,.ptr 5 0 0,.slice 4 0 (ys.length+1+1) none,rfl,bK,rfl,by rw[fh];exact .b (by simp) (by simp) rfl rfl⟩
            (simp+decide only[go_sem,a01,a00,e6,fQ,bA,eY,cu,fP,d7,eL,bo,bp,fc,iw,di,f2o,f2t,f1a,f1g,f7r,f4k,f7t,c10,a8e]<;>rfl)<;>rfl
          |c h1 h2 h3 h4=>
           obtain⟨y,ys,hy⟩:∃y ys,(x::rs)++msQ i W OO q=y::ys:=f4g h1;rw[hy]at h2 h4 fh aI bT;have fc:a0d y=[]:=aI y (f7l ..);have fa:FlatR ys:=λr hr=>aI r (f6r _ hr);have bo:=a06 fa;have bp:=λπ=>a05 π fa;have iw:∀π,y.map (ren π)=y:=λπ=>by have h:=a05 π (FlatR.cons fc FlatR.nil);simpa using h
           simp only[f1c]at h2 bT;have iv:ys.length+1+1<=1000000000:=by omega
           subst h2 h3 h4;simp only[dh,dg];rcases hb with ⟨b1,b2⟩|⟨b1,b2⟩
           all_goals
            subst b2
            (repeat first|simp only[ww]|apply xa;simp+decide only[go_sem,d3,bK,dQ,ew,eu,bR,bd,b1,dq,iv,f1c];rfl;kernel_rfl)
            refine a0y (m-(q+1)) (by omega) ⟨_,_,?_,q+1,.iptr [AV.int .i64 0,AV.str cy,AV.int .i64 1],.slice 4 0 (ys.length+1+1) none,rfl,bK,rfl,by rw[fh];exact .c (by simp) (by simp) rfl rfl⟩
            (simp+decide only[go_sem,a01,a00,e6,fQ,bA,eY,cu,fP,d7,eL,bo,bp,fc,iw,di,f2o,f2t,f1a,f1g,f7r,f4k,f7t,c10,a8e]<;>rfl)<;>rfl
         ·rw[hm,f2m (by decide),f1b]at dv;rw[<-dv]at eQ;cases eQ with
          |a h1 h2 h3 h4=>
           subst h2 h3 h4;simp only[dh,dg];rcases hb with ⟨b1,b2⟩|⟨b1,b2⟩|⟨b1,b2⟩
           all_goals
            (repeat first|simp only[ww]|apply xa;simp+decide only[go_sem,d3,bK,dQ,ew,eu,bR,bd,b1,b2,dq];rfl;kernel_rfl)
            refine a0y (m-(q+1)) (by omega) ⟨_,_,?_,q+1,.ptr 4 0 0,.nilslice,rfl,bK,rfl,.a h1 rfl rfl rfl⟩
            (simp+decide only[go_sem,a01,a00,e6,fQ,bA,eY,cu,fP,d7,eL,di,c10]<;>rfl)<;>rfl
          |b h1 h2 h3 h4=>
           rw[<-dv]at aI;obtain⟨RR,eV⟩:∃RR,(x::rs)++msQ i W OO (q+1)=RR:=⟨_,rfl⟩
           rw[eV]at aI h1 h2 h4;have bo:=a06 aI;have bp:=λπ=>a05 π aI;subst h2 h3 h4;simp only[dh,dg];rcases hb with ⟨b1,b2⟩|⟨b1,b2⟩|⟨b1,b2⟩
           all_goals
            (repeat first|simp only[ww]|apply xa;simp+decide only[go_sem,d3,bK,dQ,ew,eu,bR,bd,b1,b2,dq];rfl;kernel_rfl)
            refine a0y (m-(q+1)) (by omega) ⟨_,_,?_,q+1,.ptr 5 0 0,_,rfl,bK,rfl,by rw[eV];exact .b h1 rfl rfl rfl⟩
            (simp+decide only[go_sem,a01,a00,e6,fQ,bA,eY,cu,fP,d7,eL,bo,bp,di,c10]<;>rfl)<;>rfl
          |c h1 h2 h3 h4=>
           rw[<-dv]at aI;obtain⟨RR,eV⟩:∃RR,(x::rs)++msQ i W OO (q+1)=RR:=⟨_,rfl⟩
           rw[eV]at aI h1 h2 h4;have bo:=a06 aI;have bp:=λπ=>a05 π aI;subst h2 h3 h4;simp only[dh,dg];rcases hb with ⟨b1,b2⟩|⟨b1,b2⟩|⟨b1,b2⟩
           all_goals
            (repeat first|simp only[ww]|apply xa;simp+decide only[go_sem,d3,bK,dQ,ew,eu,bR,bd,b1,b2,dq];rfl;kernel_rfl)
            refine a0y (m-(q+1)) (by omega) ⟨_,_,?_,q+1,.iptr [AV.int .i64 0,AV.str cy,AV.int .i64 1],_,rfl,bK,rfl,by rw[eV];exact .c h1 rfl rfl rfl⟩
            (simp+decide only[go_sem,a01,a00,e6,fQ,bA,eY,cu,fP,d7,eL,bo,bp,di,c10]<;>rfl)<;>rfl
        ·obtain rfl:q=m:=by omega
         have d3:¬(q:Int)<q:=by omega
         have aS:=wI1 (n:=i) (by omega);cases eQ with
         |a h1 h2 h3 h4=>
          subst h2 h3 h4;simp only[dh,dg]
          (repeat first|simp only[ww]|apply xa;simp+decide only[go_sem,d3,aS];rfl;kernel_rfl)
          refine a1m (i+1) ?_ (by omega) (by omega);simp only[ow,ou,mE,cQ,kF,ip,lX,fk,h1,a0r,a0s]
          (simp+decide only[go_sem,a01,a00,e6,fQ,bA,eY,cu,fP,d7,eL]<;>rfl)<;>rfl
         |b h1 h2 h3 h4=>
          obtain⟨y,ys,hy⟩:∃y ys,(x::rs)++msQ i W OO q=y::ys:=f4g h1;have bo:=a06 aI;have bp:=λπ=>a05 π aI;rw[hy]at h2 h4 bo bp;simp only[f4k,f1a]at bo bp;simp only[f1c]at h2;subst h2 h3 h4;simp only[dh,dg]
          (repeat first|simp only[ww]|apply xa;simp+decide only[go_sem,d3,aS];rfl;kernel_rfl)
          refine a1m (i+1) ?_ (by omega) (by omega);simp only[ow,ou,mE,cQ,kF,ip,lX,fk,hy,a09,a0a]
          (simp+decide only[go_sem,a01,a00,e6,fQ,bA,eY,cu,fP,d7,eL,bo,bp]<;>rfl)<;>rfl
         |c h1 h2 h3 h4=>
          obtain⟨y,ys,hy⟩:∃y ys,(x::rs)++msQ i W OO q=y::ys:=f4g h1;have bo:=a06 aI;have bp:=λπ=>a05 π aI;rw[hy]at h2 h4 bo bp;simp only[f4k,f1a]at bo bp;simp only[f1c]at h2;subst h2 h3 h4;simp only[dh,dg]
          (repeat first|simp only[ww]|apply xa;simp+decide only[go_sem,d3,aS];rfl;kernel_rfl)
          refine a1m (i+1) ?_ (by omega) (by omega);simp only[ow,ou,mE,cQ,kF,ip,lX,fk,hy,a09,a0a]
          (simp+decide only[go_sem,a01,a00,e6,fQ,bA,eY,cu,fP,d7,eL,bo,bp]<;>rfl)<;>rfl
   ·obtain rfl:i=A.length:=by omega
    have d1:¬(A.length:Int)<A.length:=by omega
    have g8:=λ(d:Bool) (H:a03)=>b4s (d:=d) H;have fF:=qj A.length;generalize msI WA O m A.length=aa at fF⊢;cases aa with
    |nil=>
     rw[a0r,a0s]
     (repeat first|simp only[ww]|apply xa;simp+decide only[go_sem,d1,g8];rfl;kernel_rfl)
     refine a44 (vs:=[.nilslice,.int .i64 0]) (r:=(.tuple [.nilslice,.int .i64 0],[some (.row 3 [[.func (.func 123) [] [.ptr 1 0 0,.ptr 2 0 0,.iptr (ce c),.iptr [.islice [fb 1 nd pin val 0] (some 1)],.ptr 3 0 0],gI c A k A.length,sl (R A.length) ((S A.length).map u8R)]]),some (.row 1 [[.bool (decide (A.length=0))]]),some (.row 1 [[fn1 c]]),some (.row 2 [[lI c A k A.length,lS S R A.length]])])) (by simp+decide only[go_sem]<;>rfl) ?_ (by first|exact⟨_,rfl⟩|exact⟨_,.inl ⟨rfl,rfl⟩⟩|exact⟨_,.inl rfl⟩|exact⟨_,.inl ⟨trivial,rfl⟩⟩);rfl
    |cons x rs=>
     have cW:=λ(d:Bool) (X Y Z W:Option AObj)=>b7e (d:=d) (H:=[X,Y,Z,W,some (.row 3 (x::rs))]) (b:=4) (n:=rs.length+1) fF rfl;rw[a09,a0a]
     (repeat first|simp only[ww]|apply xa;simp+decide only[go_sem,d1,cW];rfl;kernel_rfl)
     refine a44 (vs:=[.slice 4 0 (rs.length+1) (some (rs.length+1)),.int .i64 0]) (r:=(.tuple [.slice 4 0 (rs.length+1) (some (rs.length+1)),.int .i64 0],[some (.row 3 [[.func (.func 123) [] [.ptr 1 0 0,.ptr 2 0 0,.iptr (ce c),.iptr [.islice [fb 1 nd pin val 0] (some 1)],.ptr 3 0 0],gI c A k A.length,sl (R A.length) ((S A.length).map u8R)]]),some (.row 1 [[.bool (decide (A.length=0))]]),some (.row 1 [[fn1 c]]),some (.row 2 [[lI c A k A.length,lS S R A.length]]),some (.row 3 (x::rs))])) (by simp+decide only[go_sem]<;>rfl) ?_ (by first|exact⟨_,rfl,rfl⟩|exact⟨_,.inr ⟨by simp,rfl,rfl⟩⟩|exact⟨_,rfl,by rfl⟩);rfl
end Go.UInst
namespace Go.UInst
open Go.Proofs Go.Ax Go.Pc
variable [ZC]
set_option maxRecDepth 100000
theorem e3o(c:Cir)(hc:c.wf)(hO:c.outs≠[])(p:Pat)(hp:PatOk c.nodes p)(q:Pat)(hq:PatOk c.nodes q)(nd:Nat)(pin:Int)(val:Nat)(hf:FltOk c.nodes ⟨0,nd,pin,val,0⟩)(ord:List Nat)(aH:OrdOf c ord) :
 sM 24 [.agg (ce c),.agg (fb 1 nd pin val 0),.agg [sl p.ic (p.ins.map u8R),sl p.sc (p.sts.map u8R)],.agg [sl q.ic (q.ins.map u8R),sl q.sc (q.sts.map u8R)]] []=some (.tuple [a7j (pdO c ord nd pin val p q) (pdN c ord nd pin val p q),.junk,.int .i64 0],[]):=by
 have hb:=λ(d:Bool) (H:a03)=>a0v (E:=L.env) (ah:=d) (call:=sM) (H:=H) (g:=64) (fs:=[]) (cs:=[]) (ar:=[.agg (ce c),.agg (fb 1 nd pin val 0),.agg [sl p.ic (p.ins.map u8R),sl p.sc (p.sts.map u8R)],.agg [sl q.ic (q.ins.map u8R),sl q.sc (q.sts.map u8R)]]) (by kernel_rfl) (by kernel_rfl) rfl (by simp only[f1e,f1b,go_sem]) (e19 c hc hO p hp q hq nd pin val hf ord aH) (by simp only[a58,a04,a3c,a0t,f1b];rfl);unfold a7j at hb⊢;have s1:=a11 (a17 c.outs (a2s c ord q));have s2:=a11 (a1x c.nodes (a2s c ord q));have s3:=a11 (pdO c ord nd pin val p q);have s4:=a11 (pdN c ord nd pin val p q);have q3:=a0w (pdO c ord nd pin val p q);have q4:=a0w (pdN c ord nd pin val p q);generalize a29 (a17 c.outs (a2s c ord q))=A1 at hb s1;generalize a29 (a1x c.nodes (a2s c ord q))=A2 at hb s2;generalize a29 (pdO c ord nd pin val p q)=B1 at hb s3 q3⊢;generalize a29 (pdN c ord nd pin val p q)=B2 at hb s4 q4⊢
 (refine sv Tryz.f24 ?_;simp only[Tryz.f24,gS])
 (repeat first|simp only[ww]|apply xa;simp+decide only[go_sem,hb,s1,s2,s3,s4];rfl;kernel_rfl)
 refine a6p (vs:=[.agg [B1,B2],.junk,.int .i64 0]) (by simp+decide only[go_sem]<;>rfl) (a5b (by simp only[a6l,go_sem,q3,q4,f1b]))
theorem d4r{d:Bool}(H:a03)(c:Cir)(hc:c.wf)(hO:c.outs≠[])(p:Pat)(hp:PatOk c.nodes p)(q:Pat)(hq:PatOk c.nodes q)(nd:Nat)(pin:Int)(val:Nat)(hf:FltOk c.nodes ⟨0,nd,pin,val,0⟩)(ord:List Nat)(aH:OrdOf c ord) :
 cl d 24 [.agg (ce c),.agg (fb 1 nd pin val 0),.agg [sl p.ic (p.ins.map u8R),sl p.sc (p.sts.map u8R)],.agg [sl q.ic (q.ins.map u8R),sl q.sc (q.sts.map u8R)]] H=some (.tuple [a7j (pdO c ord nd pin val p q) (pdN c ord nd pin val p q),.junk,.int .i64 0],H,[]):=
 cf (by simp only[f1e,f1b,go_sem]) (e3o c hc hO p hp q hq nd pin val hf ord aH) (by simp only[a58,a04,a0t,a3c,f1b];rfl)
section
variable (c:Cir)(ord:List Nat)(A:List (Rep×List Nat))(nd:Nat)(pin:Int)(val:Nat)
def swP:Nat->List Nat×List Nat
 |0=>(List.replicate (kinds c.nodes 14).length 2,a1x c.nodes (gN c ord (inA (xA A) 0) (List.replicate (kinds c.nodes 14).length 2)))
 |i+1=>((swP i).2,pdN c ord nd pin val ⟨none,inA (xA A) i,none,(swP i).1⟩ ⟨none,inA (xA A) (i+1),none,(swP i).2⟩)
def swS(i:Nat):List Nat:=(swP c ord A nd pin val i).1
def swO:Nat->List Nat
 |0=>a17 c.outs (gN c ord (inA (xA A) 0) (swS c ord A nd pin val 0))
 |i+1=>pdO c ord nd pin val ⟨none,inA (xA A) i,none,swS c ord A nd pin val i⟩ ⟨none,inA (xA A) (i+1),none,swS c ord A nd pin val (i+1)⟩
def swR:Nat->Rep
 |0=>some (some (kinds c.nodes 14).length)
 |i+1=>clR (swS c ord A nd pin val (i+1))
end
theorem e61(c:Cir)(ord:List Nat)(nd:Nat)(pin:Int)(val:Nat)(p q:Pat)(hp:PatOk c.nodes p)(hq:PatOk c.nodes q):∀v∈pdN c ord nd pin val p q,v<=3:=by
 have hk:=d0n c ord nd pin val p hp;have hN:∀v∈a9u c ord (d91 c ord nd pin val p) q,v<=3:=b3d hk _ _ _ _ _ hq.inv hq.stv;unfold pdN a62;intro v hv;obtain⟨n,_,rfl⟩:=f6q.1 hv;split
 ·omega
 ·rw[f2p];cases h:(a1o nAlg c.nodes (d91 c ord nd pin val p) (a9u c ord (d91 c ord nd pin val p) q) n)[0]? with
  |none=>simp
  |some x=>exact c5b hk hN n _ _ x (c11 h)
theorem e5a(c:Cir)(ord:List Nat)(A:List (Rep×List Nat))(nd:Nat)(pin:Int)(val:Nat)(i:Nat):swS c ord A nd pin val (i+2)=pdN c ord nd pin val ⟨none,inA (xA A) i,none,swS c ord A nd pin val i⟩ ⟨none,inA (xA A) (i+1),none,swS c ord A nd pin val (i+1)⟩:=rfl
theorem e0a(c:Cir)(ord:List Nat)(A:List (Rep×List Nat))(nd:Nat)(pin:Int)(val:Nat):∀i,(swS c ord A nd pin val i).length=(kinds c.nodes 14).length
 |0=>by simp[swS,swP]
 |1=>by simp[swS,swP,a1x]
 |i+2=>by rw[e5a];simp[pdN,a62]
theorem e59{c:Cir}{k:Nat}(ord:List Nat)(A:List (Rep×List Nat))(nd:Nat)(pin:Int)(val:Nat)(bH:(kinds c.nodes 0).length=k)(hA:∀a∈A,a.2.length=k)(r1 r2:Nat->Rep):∀i,i<=A.length->(∀v∈swS c ord A nd pin val i,v<=3)∧(i<A.length->PatOk c.nodes ⟨r1 i,inA (xA A) i,r2 i,swS c ord A nd pin val i⟩):=by
 have bw:∀i,i<A.length->(inA (xA A) i).length=k:=λi hi=>b0y (by rw[a5a (z9e hi)];exact hA _ (g0l hi));have qW:∀i,i<A.length->(∀v∈swS c ord A nd pin val i,v<=3)->∀a b,PatOk c.nodes ⟨a,inA (xA A) i,b,swS c ord A nd pin val i⟩:=λi hi hv a b=>⟨by rw[bH];exact bw i hi,e0a c ord A nd pin val i,λv hv=>by have:=b9h A i v hv;omega,hv⟩
 have key:∀i,i<=A.length->(∀v∈swS c ord A nd pin val i,v<=3)∧(i+1<=A.length->∀v∈swS c ord A nd pin val (i+1),v<=3):=by
  intro i
  induction i with
  |zero=>
   intro _;refine⟨λv hv=>?_,λ_ v hv=>?_⟩
   ·have hv:v∈List.replicate (kinds c.nodes 14).length 2:=hv;rw[f4t hv];omega
   ·have hv:v∈a1x c.nodes (gN c ord (inA (xA A) 0) (List.replicate (kinds c.nodes 14).length 2)):=hv;have:=c5i _ _ v hv;omega
  |succ i ih=>intro hi;have ih:=ih (by omega);refine⟨ih.2 hi,λh2=>?_⟩;rw[e5a];exact e61 c ord nd pin val _ _ (qW i (by omega) ih.1 _ _) (qW (i+1) (by omega) (ih.2 hi) _ _)
 exact λi hi=>⟨(key i hi).1,λai=>qW i ai (key i hi).1 _ _⟩
theorem f9e(c:Cir)(hc:c.wf){k m:Nat}(ht:Tio c k m)(ord:List Nat)(aH:OrdOf c ord)(A:List (Rep×List Nat))(hA:∀a∈A,a.2.length=k)(nd:Nat)(pin:Int)(val:Nat)(hf:FltOk c.nodes ⟨0,nd,pin,val,0⟩) :
 StpS c A k m nd pin val (swO c ord A nd pin val) (swS c ord A nd pin val) (swR c ord A nd pin val):=by
 have hO:c.outs≠[]:=by intro e;have:=ht.out;have:=ht.m1;rw[e]at *;simp at *;omega
 have bH:(kinds c.nodes 0).length=k:=by rw[ht.ins];simp
 refine⟨λi hi=>?_,λi=>?_⟩
 ·have jq:=λj (hj:j<A.length)=>(e59 ord A nd pin val bH hA (λ_=>some (some k)) (swR c ord A nd pin val) j (by omega)).2 hj;cases i with
  |zero=>have h:=d0h c hc hO ord aH _ (jq 0 hi) nd pin val .nilslice .nilslice rfl rfl;unfold a7j at h;simp only[a5s]at h;rw[a92 (a1x c.nodes _)]at h;exact h
  |succ i=>have hP:=λ(d:Bool) (H:a03)=>d4r (d:=d) H c hc hO _ (jq i (by omega)) _ (jq (i+1) hi) nd pin val hf ord aH;unfold a7j at hP;rw[a92 (pdN c ord nd pin val _ _)]at hP;have h:=d0g c (fn1 c) (b11 c) ⟨some (some k),inA (xA A) (i+1),swR c ord A nd pin val (i+1),swS c ord A nd pin val (i+1)⟩ ⟨some (some k),inA (xA A) i,swR c ord A nd pin val i,swS c ord A nd pin val i⟩ nd pin val _ _ (a11 _) (by simp only[go_sem]) (a0w _) (a16 _ _) (b26 _) (by simp only[go_sem]) hP;simp only[a5s]at h;exact h
 ·cases i with
  |zero=>show(a17 _ _).length=m;rw[a79,ht.out]
  |succ i=>show(a17 _ _).length=m;rw[a79,ht.out]
end Go.UInst
namespace Go.UInst
open Go.Proofs Go.Ax Go.Pc
attribute [local instance] zc5
set_option maxRecDepth 100000
theorem e0o{val:Nat}{nd pin be:Int}:d4q 1 val nd pin be:=by
 intro c hc k m ht A gp hA VS WA dD dV iy ii dW hf;obtain⟨n,o,rfl,rfl,⟨_,rfl,hf⟩|hf⟩:=hf
 ·obtain⟨ord,aH⟩:=d1f _ hc;have m5:=f9e c hc ht ord aH A (λa ha=>(hA a ha).1) n pin val hf;have hr:=d02 c hc ht ord aH A gp hA VS WA dD dV iy ii dW n pin val hf _ _ _ m5 rfl;exact⟨_,d0u 4 (b3k _ _ _ _) (d1i _ _ _ _) hr⟩
 ·have h:(1:Nat)=0∨(1:Nat)=2∨(1:Nat)=3:=hf.model;omega
end Go.UInst
namespace Go.UInst
open Go.Proofs Go.Ax Go.Pc
attribute [local instance] zc2
theorem d7b{E E':Env}{f:FuncId}{run:List AV->a03->Option (AV×a03)}(hf:f≠yId)(hP:E.P=E'.P)(hG:E.G=E'.G)(h:a9a E f run):a9a E' f run:=by
 intro args H v H' hr I K ρ w an h1 h2 h3;have h4:=h args H v H' hr I K ρ w an (by rw[hG];exact h1) h2 h3;rw[b2y hf]at h4⊢;rw[<-hP];refine h4.mono ?_
 rintro e w' ⟨c,I',ρ',a,b,d⟩
 exact⟨c,I',ρ',a,⟨b.imm,b.map,b.ext,by rw[<-hG];exact b.rel,b.nrel,b.low⟩,d⟩
noncomputable def e8i(args:List AV)(H:a03):Option (AV×a03):=match args with
 | [_,_,.agg (_ :: .int .u8 1::_)]=>sem (@L zc5).env Mf 8 args H
 |_=>sem (@L zc2).env Mf 8 args H
theorem runE_ok:a9a (@L zc2).env 8 e8i:=by
 intro args H v H' h;unfold e8i at h;split at h
 ·exact d7b (E:=(@L zc5).env) (E':=(@L zc2).env) (run:=sem (@L zc5).env Mf 8) (by decide) rfl rfl (d94 (@ok zc5) (@dr zc5) (M:=Mf) (λ_ h=>by cases h) 8) _ H v H' h
 ·exact(d94 (@ok zc2) (@dr zc2) (M:=Mf) (λ_ h=>by cases h) 8) _ H v H' h
theorem runE_true(eT:∀H,a20 (@L zc2).env false (sem (@L zc2).env Mf) (.func (.func 12) [] []) [] H=some (.bool true,H,[]))(uP:∀H,a20 (@L zc5).env false (sem (@L zc5).env Mf) (.func (.func 12) [] []) [] H=some (.bool true,H,[]))
 (x y:CX)(pr:Rep)(ps:List Pat)(md val:Nat)(nd pin be:Int)(eN am:Bool)(hx:x.ok)(og:Ports x)(hy:y.ok)(hp:∀p∈ps,PxOk p)(hl:ps.length<9223372036854775808) :
 e8i [.agg x.enc,.agg y.enc,.agg [sl pr (ps.map Pat.enc),.int .u8 md,.int .i64 nd,.int .i64 pin,.int .u8 val,.int .i64 be,.bool eN,.bool am]] []=some (.bool true,[]):=by
 by_cases hm:md=1
 ·subst hm;exact @c1s zc5 uP x y hx hy og pr ps hp hl 1 val nd pin be eN am e0o
 ·have h:=@c1s zc2 eT x y hx hy og pr ps hp hl md val nd pin be eN am (e0p hm);unfold e8i;split
  ·rename_i h1;injection h1 with _ h1
   injection h1 with _ h1
   injection h1 with h1
   injection h1 with h1
   injection h1 with _ h1
   injection h1 with h1 _
   injection h1 with _ h1
   omega
  ·exact h
end Go.UInst
