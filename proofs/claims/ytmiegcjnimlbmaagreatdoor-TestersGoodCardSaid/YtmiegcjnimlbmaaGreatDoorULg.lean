/- Part of a proof. No condition. -/
import Derived.Test.YtmiegcjnimlbmaaGreatDoorUNe
import Derived.Test.YtmiegcjnimlbmaaGreatDoorPcB
import Derived.Test.YtmiegcjnimlbmaaGreatDoorAxD
import Derived.Test.YtmiegcjnimlbmaaGreatDoorUPa
set_option linter.unusedSimpArgs false
set_option linter.unusedVariables false
namespace Go.UInst
open Go.Proofs Go.Ax Go.Pc
set_option maxRecDepth 100000
inductive RA(l:List Nat):AV→a02→Prop
 |imm (r:Rep):RA l (sl r (l.map u8R)) []
 |blk (c:Option Nat) (ai:List (List AV)) (hf:FlatR (l.map u8R++ai)):RA l (.slice 0 0 l.length c) [some (.row 1 (l.map u8R++ai))]
theorem a42(l:List Nat):FlatR (l.map u8R):=FlatR.map λ_=>rfl
theorem b7u{l:List Nat}{V:AV}{H:a02}(h:RA l V H):b3w L.env (a01 H) 52 V=some (.int .i64 l.length):=by
 cases h with
 |imm r=>simp+decide only[go_sem]
 |blk c ai hf=>simp+decide only[go_sem]
theorem b7v{l:List Nat}{V:AV}{H:a02}(h:RA l V H){i v:Nat}(hi:l[i]?=some v):∃p,a0p L.env (a01 H) 52 V (.int .i64 i)=some p∧a5h L.env (a01 H) 53 p=some (.int .u8 v):=by
 have ak:=(e5k.1 hi).1;cases h with
 |imm r=>exact⟨_,by simp+decide only[go_sem,hi,ak]<;>rfl,by simp+decide only[go_sem,hi,ak]⟩
 |blk c ai hf=>
  have hg:(l.map u8R++ai)[i]?=some [.int .u8 v]:=by rw[e6j (by simpa using ak),e5n,hi];rfl
  have e6:i<(l.map u8R++ai).length:=by simp;omega
  exact⟨_,by simp+decide only[go_sem,hg,ak,e6]<;>rfl,by simp+decide only[go_sem,hg,ak,e6]⟩
theorem a19{l:List Nat}{V v:AV}{H:a02}(h:RA l V H)(hv:refs v=[]):a1q false H.length v H=some (v,H):=by
 cases h with
 |imm r=>exact c0j hv
 |blk c ai hf=>have h1:=λπ=>a08 π hf;have hr:∀π,ren π v=v:=λπ=>a1d π v hv;simp+decide only[go_sem,a1q,a1c _ _ _ _ hv,h1]
theorem d5p{l:List Nat}{V:AV}{H:a02}(h:RA l V H)(b:Nat):a0t (a01 H b)=[]:=by
 cases h with
 |imm r=>rfl
 |blk c ai hf=>
  cases b with
  |zero=>exact a0j hf
  |succ b=>rfl
theorem d3z{l:List Nat}{V:AV}{H:a02}(h:RA l V H):(∀b∈refs V,b<H.length)∧(refs V).length≤1:=by
 cases h with
 |imm r=>rw[a12];exact⟨λb hb=>by simp at hb,by simp⟩
 |blk c ai hf=>exact⟨λb hb=>by simp[refs]at hb;subst hb;simp,by simp[refs]⟩
theorem b63{l:List Nat}{V:AV}{H:a02}(h:RA l V H){keep:List Nat}{F F':Frm}(hk:a1l keep F=F')(hF:a0a (F'.map (·.2))=refs V∨a0a (F'.map (·.2))=[]):gcD H.length keep F H=some (F',H):=by
 obtain⟨h1,h2⟩:=d3z h;refine e0z hk ?_ ?_ (d5p h)
 ·rcases hF with e|e<;>rw[e]
  ·exact h1
  ·intro b hb;simp at hb
 ·rcases hF with e|e<;>rw[e]
  ·omega
  ·simp
theorem a5n{l:List Nat}{V:AV}{H:a02}(h:RA l V H){d:Bool}{g:FuncId}{pre post:List AV}{v:AV}(hx:L.env.ext g=false)(hf:(L.env.fn g).isSome=true)(hp:a0a pre=[])(hq:a0a post=[])(hv:refs v=[])
 (hr:∀V H,RA l V H→sem L.env Mf g (pre++V::post) H=some (v,H)):a09 L.env d (sem L.env Mf) (.func (.func g) [] []) (pre++V::post) H=some (v,H,refs V):=by
 have hr:=hr V H h;cases h with
 |imm r=>rw[a12];exact a04 hx hf rfl (by simp only[e5m,e4t,b0h,a06,a12,hp,hq]) (by simpa using hr) hv
 |blk c ai cu=>refine a2h (b:=0) (fs:=[]) (cs:=[]) (args:=pre ++ .slice 0 0 l.length c::post) hx hf (by simp) rfl (a0j cu) (FlatO.row cu) (by simp only[b0h,a06,hp,hq,c3b,e5m,e4t]) (aq:=pre ++ .slice 0 0 l.length c::post) ?_ hr hv;rw[e6r,e4r,a1u];have e:∀l:List AV,a0a l=[]→l.map (ren (a8e [0]))=l:=λl hl=>a34 _ hl;rw[e _ hp,e _ hq]
/-! ### scalars -/
theorem c73(v:Nat):sem L.env Mf 148 [.int .u8 v] []=some (.bool (decide (v≤1)),[]):=by
 have e:decide ((v:Int)≤1)=decide (v≤1):=by rw[decide_eq_decide];omega
 (refine sv Tryz.f148 ?_;simp only[Tryz.f148,gS])
 (repeat first|simp only[ww]|(apply xa;simp+decide only[go_sem,e];rfl;kernel_rfl))
 (apply fqb;simp+decide only[go_sem]<;>rfl)
theorem b2c{d:Bool}(H:a02)(v:Nat):a09 L.env d (sem L.env Mf) (.func (.func 148) [] []) [.int .u8 v] H=some (.bool (decide (v≤1)),H,[]):=a04 (by kernel_rfl) (by kernel_rfl) rfl rfl (c73 v) rfl
theorem d17(v:Nat):sem L.env Mf 107 [.int .u8 v] []=some (.int .u8 (a3r v:Nat),[]):=by
 have e:d4l (.int .u8 v) [.int .u8 2]=some (.int .u8 ((a3r v:Nat):Int)):=by
  simp only[d4l,a3r];by_cases h:(2:Int)<v
  ·rw[e6q h];congr 2;omega
  ·rw[e5s h];congr 2;omega
 generalize a3r v=w at e
 (refine sv Tryz.f107 ?_;simp only[Tryz.f107,gS])
 (repeat first|simp only[ww]|(apply xa;simp+decide only[go_sem,e];rfl;kernel_rfl))
 (apply fqb;simp+decide only[go_sem]<;>rfl)
theorem a5w{d:Bool}(H:a02)(v:Nat):a09 L.env d (sem L.env Mf) (.func (.func 107) [] []) [.int .u8 v] H=some (.int .u8 (a3r v:Nat),H,[]):=a04 (by kernel_rfl) (by kernel_rfl) rfl rfl (d17 v) rfl
theorem d69(v:Nat):sem L.env Mf 108 [.int .u8 v] []=some (.int .u8 (b0l v:Nat),[]):=by
 have hk:=λH=>b2c (d:=false) H v;by_cases h:v≤1
 ·have hw:IntKind.u8.wrap (1-(v:Int))=((1-v:Nat):Int):=by rw[IntWalk.u8_in _ ⟨by omega,by omega⟩];omega
  rw[show b0l v=1-v by simp[b0l,h]]
  (refine sv Tryz.f108 ?_;simp only[Tryz.f108,gS])
  (repeat first|simp only[ww]|(apply xa;simp+decide only[go_sem,hk,h,hw];rfl;kernel_rfl))
  (apply fqb;simp+decide only[go_sem]<;>rfl)
 ·rw[show b0l v=2 by simp[b0l,h]]
  (refine sv Tryz.f108 ?_;simp only[Tryz.f108,gS])
  (repeat first|simp only[ww]|(apply xa;simp+decide only[go_sem,hk,h];rfl;kernel_rfl))
  (apply fqb;simp+decide only[go_sem]<;>rfl)
theorem c71{d:Bool}(H:a02)(v:Nat):a09 L.env d (sem L.env Mf) (.func (.func 108) [] []) [.int .u8 v] H=some (.int .u8 (b0l v:Nat),H,[]):=a04 (by kernel_rfl) (by kernel_rfl) rfl rfl (d69 v) rfl
theorem d6a(s a b:Nat):sem L.env Mf 112 [.int .u8 s,.int .u8 a,.int .u8 b] []=some (.int .u8 (b27 s a b:Nat),[]):=by
 have ha:=λH=>a5w (d:=false) H a;have hb:=λH=>a5w (d:=false) H b;by_cases h0:s=0
 ·have c0:(s:Int)=0:=by omega
  rw[show b27 s a b=a3r a by simp[b27,h0]]
  (refine sv Tryz.f112 ?_;simp only[Tryz.f112,gS])
  (repeat first|simp only[ww]|(apply xa;simp+decide only[go_sem,ha,c0];rfl;kernel_rfl))
  (apply fqb;simp+decide only[go_sem]<;>rfl)
 have c0:¬(s:Int)=0:=by omega
 by_cases h1:s=1
 ·have c1:(s:Int)=1:=by omega
  rw[show b27 s a b=a3r b by simp[b27,h1]]
  (refine sv Tryz.f112 ?_;simp only[Tryz.f112,gS])
  (repeat first|simp only[ww]|(apply xa;simp+decide only[go_sem,hb,c1];rfl;kernel_rfl))
  (apply fqb;simp+decide only[go_sem]<;>rfl)
 have c1:¬(s:Int)=1:=by omega
 by_cases h2:a=b
 ·have c2:(a:Int)=b:=by omega
  rw[show b27 s a b=a3r a by simp[b27,h0,h1,h2]]
  (refine sv Tryz.f112 ?_;simp only[Tryz.f112,gS])
  (repeat first|simp only[ww]|(apply xa;simp+decide only[go_sem,ha,c0,c1,c2];rfl;kernel_rfl))
  subst h2
  (repeat first|simp only[ww]|(apply xa;simp+decide only[go_sem,ha];rfl;kernel_rfl))
  (apply fqb;simp+decide only[go_sem]<;>rfl)
 ·have c2:¬(a:Int)=b:=by omega
  rw[show b27 s a b=2 by simp[b27,h0,h1,h2]]
  (refine sv Tryz.f112 ?_;simp only[Tryz.f112,gS])
  (repeat first|simp only[ww]|(apply xa;simp+decide only[go_sem,c0,c1,c2];rfl;kernel_rfl))
  (apply fqb;simp+decide only[go_sem]<;>rfl)
theorem c72{d:Bool}(H:a02)(s a b:Nat):a09 L.env d (sem L.env Mf) (.func (.func 112) [] []) [.int .u8 s,.int .u8 a,.int .u8 b] H=some (.int .u8 (b27 s a b:Nat),H,[]):=a04 (by kernel_rfl) (by kernel_rfl) rfl rfl (d6a s a b) rfl
theorem d68(e v:Nat):sem L.env Mf 113 [.int .u8 e,.int .u8 v] []=some (.int .u8 (b7e e v:Nat),[]):=by
 have ha:=λH=>a5w (d:=false) H v;by_cases h0:e=0
 ·have c0:(e:Int)=0:=by omega
  rw[show b7e e v=3 by simp[b7e,h0]]
  (refine sv Tryz.f113 ?_;simp only[Tryz.f113,gS])
  (repeat first|simp only[ww]|(apply xa;simp+decide only[go_sem,c0];rfl;kernel_rfl))
  (apply fqb;simp+decide only[go_sem]<;>rfl)
 have c0:¬(e:Int)=0:=by omega
 by_cases h1:e=1
 ·have c1:(e:Int)=1:=by omega
  rw[show b7e e v=a3r v by simp[b7e,h1]]
  (refine sv Tryz.f113 ?_;simp only[Tryz.f113,gS])
  (repeat first|simp only[ww]|(apply xa;simp+decide only[go_sem,ha,c1];rfl;kernel_rfl))
  (apply fqb;simp+decide only[go_sem]<;>rfl)
 have c1:¬(e:Int)=1:=by omega
 rw[show b7e e v=2 by simp[b7e,h0,h1]]
 (refine sv Tryz.f113 ?_;simp only[Tryz.f113,gS])
 (repeat first|simp only[ww]|(apply xa;simp+decide only[go_sem,c0,c1];rfl;kernel_rfl))
 (apply fqb;simp+decide only[go_sem]<;>rfl)
theorem c6y{d:Bool}(H:a02)(e v:Nat):a09 L.env d (sem L.env Mf) (.func (.func 113) [] []) [.int .u8 e,.int .u8 v] H=some (.int .u8 (b7e e v:Nat),H,[]):=a04 (by kernel_rfl) (by kernel_rfl) rfl rfl (d68 e v) rfl
/-! ### lists -/
theorem c49(l:List Nat)(V:AV)(H:a02)(hV:RA l V H)(hl:l.length<1000000)(low a7:Nat):sem L.env Mf 149 [V,.int .u8 low,.int .u8 a7] H=some (.int .u8 (a4y low a7 a7 l:Nat),H):=by
 have aj:=b7u hV;have b4:=d3z hV
 suffices hs:∃r:AV×a02,(r=(.int .u8 (a4y low a7 a7 l:Nat),H))∧sem L.env Mf 149 [V,.int .u8 low,.int .u8 a7] H=some r by obtain⟨r,rfl,h3⟩:=hs;exact h3
 (refine svE Tryz.f149 ?_;simp only[Tryz.f149,gS])
 (repeat first|simp only[ww]|(apply xa;simp+decide only[go_sem,aj];rfl;kernel_rfl))
 refine a5m kp149_0 (λn F H1=>∃(i out:Nat),n=l.length-i∧i≤l.length∧F=[(1,.int .u8 low),(2,.int .u8 a7),(7,.int .u8 out),(11,V),(12,.int .i64 l.length),(13,.int .i64 i)]∧H1=H∧a4y low a7 out (l.drop i)=a4y low a7 a7 l) l.length ?_ ?_
 ·exact⟨_,_,b63 hV (by simp+decide only[go_sem]<;>rfl) (.inl (by simp+decide only[go_sem])),0,a7,rfl,e5q _,rfl,rfl,rfl⟩
 ·rintro n F H1 ⟨i,out,rfl,hi,rfl,rfl,aM⟩
  by_cases ak:i<l.length
  ·obtain⟨v,hv⟩:∃v,l[i]?=some v:=⟨_,z9e ak⟩
   obtain⟨p,eb,dw⟩:=b7v hV hv;have hd:l.drop i=v::l.drop (i+1):=by rw[←List.getElem_cons_drop ak,(e5k.1 hv).2]
   rw[hd]at aM;have c1:(i:Int)<l.length:=by omega
   have hw:=wI1 (n:=i) (by omega);by_cases h1:v=low
   ·have c2:(v:Int)=low:=by omega
    simp only[a4y,h1,e8f]at aM
    (repeat first|simp only[ww]|(apply xa;simp+decide only[go_sem,c1,eb,dw,c2];rfl;kernel_rfl))
    refine a81 (vs:=[.int .u8 low]) (r:=(_,_)) (by simp+decide only[go_sem]) (a19 hV rfl) ?_;rw[←aM];rfl
   ·have c2:¬(v:Int)=low:=by omega
    by_cases h2:v=a7
    ·subst h2;simp only[a4y,e5s h1,e8f]at aM
     (repeat first|simp only[ww]|(apply xa;simp+decide only[go_sem,c1,eb,dw,c2,hw];rfl;kernel_rfl))
     refine a2e (l.length-(i+1)) (by omega) ⟨_,_,b63 hV (by simp+decide only[go_sem]<;>rfl) (.inl (by simp+decide only[go_sem])),i+1,out,rfl,ak,rfl,rfl,aM⟩
    ·have c3:¬(v:Int)=a7:=by omega
     simp only[a4y,e5s h1,e5s h2]at aM
     (repeat first|simp only[ww]|(apply xa;simp+decide only[go_sem,c1,eb,dw,c2,c3,hw];rfl;kernel_rfl))
     refine a2e (l.length-(i+1)) (by omega) ⟨_,_,b63 hV (by simp+decide only[go_sem]<;>rfl) (.inl (by simp+decide only[go_sem])),i+1,2,rfl,ak,rfl,rfl,aM⟩
  ·obtain rfl:i=l.length:=by omega
   have c1:¬(l.length:Int)<l.length:=by omega
   rw[List.drop_length]at aM;simp only[a4y]at aM
   (repeat first|simp only[ww]|(apply xa;simp+decide only[go_sem,c1];rfl;kernel_rfl))
   refine b6p (vs:=[.int .u8 out]) (r:=(_,_)) (by simp+decide only[go_sem]) (a19 hV rfl) ?_;rw[←aM];rfl
theorem b0p{l:List Nat}{V:AV}{H:a02}(hV:RA l V H)(hl:l.length<1000000){d:Bool}(low a7:Nat){a b:Int}(ha:a=low)(hb:b=a7):a09 L.env d (sem L.env Mf) (.func (.func 149) [] []) [V,.int .u8 a,.int .u8 b] H=some (.int .u8 (a4y low a7 a7 l:Nat),H,refs V):=by subst ha;subst hb;exact a5n hV (pre:=[]) (post:=[.int .u8 low,.int .u8 a7]) (by kernel_rfl) (by kernel_rfl) rfl rfl rfl (λV H hV=>c49 l V H hV hl low a7)
theorem d6e(l:List Nat)(V:AV)(H:a02)(hV:RA l V H)(hl:l.length<1000000):sem L.env Mf 109 [V] H=some (.int .u8 (a4y 0 1 1 l:Nat),H):=by
 have hc:=b0p hV hl (d:=false) 0 1 (a:=0) (b:=1) rfl rfl;generalize a4y 0 1 1 l=w at hc
 (refine sv Tryz.f109 ?_;simp only[Tryz.f109,gS])
 (repeat first|simp only[ww]|(apply xa;simp+decide only[go_sem,hc];rfl;kernel_rfl))
 refine a8k (vs:=[.int .u8 w]) (by simp+decide only[go_sem]) (a19 hV rfl)
theorem c7c{l:List Nat}{V:AV}{H:a02}(hV:RA l V H)(hl:l.length<1000000){d:Bool}:a09 L.env d (sem L.env Mf) (.func (.func 109) [] []) [V] H=some (.int .u8 (a4y 0 1 1 l:Nat),H,refs V):=a5n hV (pre:=[]) (post:=[]) (by kernel_rfl) (by kernel_rfl) rfl rfl rfl (λV H hV=>d6e l V H hV hl)
theorem e0i(l:List Nat)(V:AV)(H:a02)(hV:RA l V H)(hl:l.length<1000000):sem L.env Mf 110 [V] H=some (.int .u8 (a4y 1 0 0 l:Nat),H):=by
 have hc:=b0p hV hl (d:=false) 1 0 (a:=1) (b:=0) rfl rfl;generalize a4y 1 0 0 l=w at hc
 (refine sv Tryz.f110 ?_;simp only[Tryz.f110,gS])
 (repeat first|simp only[ww]|(apply xa;simp+decide only[go_sem,hc];rfl;kernel_rfl))
 refine a8k (vs:=[.int .u8 w]) (by simp+decide only[go_sem]) (a19 hV rfl)
theorem d18{l:List Nat}{V:AV}{H:a02}(hV:RA l V H)(hl:l.length<1000000){d:Bool}:a09 L.env d (sem L.env Mf) (.func (.func 110) [] []) [V] H=some (.int .u8 (a4y 1 0 0 l:Nat),H,refs V):=a5n hV (pre:=[]) (post:=[]) (by kernel_rfl) (by kernel_rfl) rfl rfl rfl (λV H hV=>e0i l V H hV hl)
theorem e46{a b:Nat}(ha:a≤1)(hb:b≤1):e56 .u8 (a:Int) (b:Int)=((a^^^b:Nat):Int)∧a^^^b≤1:=by
 have ha:a=0∨a=1:=by omega
 have hb:b=0∨b=1:=by omega
 rcases ha with rfl|rfl<;>rcases hb with rfl|rfl<;>exact⟨by decide,by decide⟩
theorem d67(l:List Nat)(V:AV)(H:a02)(hV:RA l V H)(hl:l.length<1000000):sem L.env Mf 111 [V] H=some (.int .u8 (b1i 0 l:Nat),H):=by
 have aj:=b7u hV
 suffices hs:∃r:AV×a02,(r=(.int .u8 (b1i 0 l:Nat),H))∧sem L.env Mf 111 [V] H=some r by obtain⟨r,rfl,h3⟩:=hs;exact h3
 (refine svE Tryz.f111 ?_;simp only[Tryz.f111,gS])
 (repeat first|simp only[ww]|(apply xa;simp+decide only[go_sem,aj];rfl;kernel_rfl))
 refine a5m kp111_0 (λn F H1=>∃(i out:Nat),n=l.length-i∧i≤l.length∧out≤1∧F=[(3,.int .u8 out),(6,V),(7,.int .i64 l.length),(8,.int .i64 i)]∧H1=H∧b1i out (l.drop i)=b1i 0 l) l.length ?_ ?_
 ·exact⟨_,_,b63 hV (by simp+decide only[go_sem]<;>rfl) (.inl (by simp+decide only[go_sem])),0,0,rfl,e5q _,by omega,rfl,rfl,rfl⟩
 ·rintro n F H1 ⟨i,out,rfl,hi,ho,rfl,rfl,aM⟩
  by_cases ak:i<l.length
  ·obtain⟨v,hv⟩:∃v,l[i]?=some v:=⟨_,z9e ak⟩
   obtain⟨p,eb,dw⟩:=b7v hV hv;have hd:l.drop i=v::l.drop (i+1):=by rw[←List.getElem_cons_drop ak,(e5k.1 hv).2]
   rw[hd]at aM;have c1:(i:Int)<l.length:=by omega
   have hw:=wI1 (n:=i) (by omega);have hk:=λH=>b2c (d:=false) H v;by_cases h1:v≤1
   ·obtain⟨hx,fN⟩:=e46 ho h1;simp only[b1i,e6q h1]at aM
    (repeat first|simp only[ww]|(apply xa;simp+decide only[go_sem,c1,eb,dw,hk,h1,hx,hw];rfl;kernel_rfl))
    refine a2e (l.length-(i+1)) (by omega) ⟨_,_,b63 hV (by simp+decide only[go_sem]<;>rfl) (.inl (by simp+decide only[go_sem])),i+1,out^^^v,rfl,ak,fN,rfl,rfl,aM⟩
   ·simp only[b1i,e5s h1]at aM
    (repeat first|simp only[ww]|(apply xa;simp+decide only[go_sem,c1,eb,dw,hk,h1];rfl;kernel_rfl))
    refine a81 (vs:=[.int .u8 2]) (r:=(_,_)) (by simp+decide only[go_sem]) (a19 hV rfl) ?_;rw[←aM];rfl
  ·obtain rfl:i=l.length:=by omega
   have c1:¬(l.length:Int)<l.length:=by omega
   rw[List.drop_length]at aM;simp only[b1i]at aM
   (repeat first|simp only[ww]|(apply xa;simp+decide only[go_sem,c1];rfl;kernel_rfl))
   refine b6p (vs:=[.int .u8 out]) (r:=(_,_)) (by simp+decide only[go_sem]) (a19 hV rfl) ?_;rw[←aM];rfl
theorem c6x{l:List Nat}{V:AV}{H:a02}(hV:RA l V H)(hl:l.length<1000000){d:Bool}:a09 L.env d (sem L.env Mf) (.func (.func 111) [] []) [V] H=some (.int .u8 (b1i 0 l:Nat),H,refs V):=a5n hV (pre:=[]) (post:=[]) (by kernel_rfl) (by kernel_rfl) rfl rfl rfl (λV H hV=>d67 l V H hV hl)
set_option maxHeartbeats 200000000
def b3q(p:Nat→Bool)(l:List Nat):Int:=match l.findIdx? p with
 |some i=>i
 |none=>-1
theorem c1w{p:Nat→Bool}{l:List Nat}{i v:Nat}(hv:l[i]?=some v)(hp:p v=true)(hb:∀(j w:Nat),j<i→l[j]?=some w→p w=false):b3q p l=i:=by
 have ak:=(e5k.1 hv).1;have:l.findIdx? p=some i:=by rw[List.findIdx?_eq_some_iff_getElem];refine⟨ak,by rw[(e5k.1 hv).2];exact hp,λj hj=>?_⟩;have:=hb j _ hj (z9e (by omega));simp[this]
 unfold b3q;rw[this]
theorem b8c{p:Nat→Bool}{l:List Nat}(hb:∀(j w:Nat),j<l.length→l[j]?=some w→p w=false):b3q p l = -1:=by
 have:l.findIdx? p=none:=by rw[List.findIdx?_eq_none_iff];intro x hx;obtain⟨j,hj⟩:=e8k.1 hx;exact hb j x (e5k.1 hj).1 hj
 unfold b3q;rw[this]
theorem c7t(p:Nat→Bool)(l:List Nat):decide (0≤b3q p l)=l.any p:=by
 unfold b3q;cases h:l.findIdx? p with
 |none=>
  have:=List.findIdx?_eq_none_iff.1 h;have e:l.any p=false:=by rw[List.any_eq_false];intro x hx;simp[this x hx]
  rw[e];rfl
 |some i=>obtain⟨hi,hp,_⟩:=List.findIdx?_eq_some_iff_getElem.1 h;have e:l.any p=true:=List.any_eq_true.2 ⟨_,List.getElem_mem hi,hp⟩;rw[e];simp
theorem d1a(l:List Nat)(V:AV)(H:a02)(hV:RA l V H)(hl:l.length<1000000)(f:AV)(p:Nat→Bool)(hE:refs f=[])(hf:∀(d:Bool) (H:a02) (v:Nat),a09 L.env d (sem L.env Mf) f [.int .u8 v] H=some (.bool (p v),H,[])) :
 sem L.env Mf 139 [V,f] H=some (.int .i64 (b3q p l),H):=by
 have aj:=b7u hV
 suffices hs:∃r:AV×a02,(r=(.int .i64 (b3q p l),H))∧sem L.env Mf 139 [V,f] H=some r by obtain⟨r,rfl,h3⟩:=hs;exact h3
 (refine svE Tryz.f139 ?_;simp only[Tryz.f139,gS])
 (repeat first|simp only[ww]|(apply xa;simp+decide only[go_sem,aj];rfl;kernel_rfl))
 refine a5m kp139_0 (λn F H1=>∃(i:Nat),n=l.length-i∧i≤l.length∧F=[(0,V),(1,f),(7,.int .i64 l.length),(8,.int .i64 i)]∧H1=H∧∀(j w:Nat),j<i→l[j]?=some w→p w=false) l.length ?_ ?_
 ·exact⟨_,_,b63 hV (by simp+decide only[go_sem]<;>rfl) (.inl (by simp+decide only[go_sem,hE])),0,rfl,e5q _,rfl,rfl,λj w hj=>by omega⟩
 ·rintro n F H1 ⟨i,rfl,hi,rfl,rfl,hb⟩
  by_cases ak:i<l.length
  ·obtain⟨v,hv⟩:∃v,l[i]?=some v:=⟨_,z9e ak⟩
   obtain⟨q,eb,dw⟩:=b7v hV hv;have c1:(i:Int)<l.length:=by omega
   have hw:=wI1 (n:=i) (by omega);have hc:=λd H=>hf d H v;cases hpv:p v with
   |true=>
    rw[hpv]at hc
    (repeat first|simp only[ww]|(apply xa;simp+decide only[go_sem,c1,eb,dw,hc];rfl;kernel_rfl))
    refine a81 (vs:=[.int .i64 i]) (r:=(_,_)) (by simp+decide only[go_sem]) (a19 hV rfl) ?_;rw[c1w hv hpv hb];rfl
   |false=>
    rw[hpv]at hc
    (repeat first|simp only[ww]|(apply xa;simp+decide only[go_sem,c1,eb,dw,hc,hw];rfl;kernel_rfl))
    refine a2e (l.length-(i+1)) (by omega) ⟨_,_,b63 hV (by simp+decide only[go_sem]<;>rfl) (.inl (by simp+decide only[go_sem,hE])),i+1,rfl,ak,rfl,rfl,λj w hj nW=>?_⟩;by_cases fk:j=i
    ·subst fk;rw[hv]at nW;cases nW;exact hpv
    ·exact hb j w (by omega) nW
  ·obtain rfl:i=l.length:=by omega
   have c1:¬(l.length:Int)<l.length:=by omega
   (repeat first|simp only[ww]|(apply xa;simp+decide only[go_sem,c1];rfl;kernel_rfl))
   refine a81 (vs:=[.int .i64 (-1)]) (r:=(_,_)) (by simp+decide only[go_sem]) (a19 hV rfl) ?_;rw[b8c hb];rfl
theorem b4r{l:List Nat}{V:AV}{H:a02}(hV:RA l V H)(hl:l.length<1000000){d:Bool}(f:AV)(p:Nat→Bool)(hE:refs f=[])(hf:∀(d:Bool) (H:a02) (v:Nat),a09 L.env d (sem L.env Mf) f [.int .u8 v] H=some (.bool (p v),H,[])) :
 a09 L.env d (sem L.env Mf) (.func (.func 139) [] []) [V,f] H=some (.int .i64 (b3q p l),H,refs V):=
 a5n hV (pre:=[]) (post:=[f]) (by kernel_rfl) (by kernel_rfl) rfl (by simp only[a06,a0r,hE,e4t]) rfl (λV H hV=>d1a l V H hV hl f p hE hf)
theorem c7a(l:List Nat)(V:AV)(H:a02)(hV:RA l V H)(hl:l.length<1000000)(f:AV)(p:Nat→Bool)(hE:refs f=[])(hf:∀(d:Bool) (H:a02) (v:Nat),a09 L.env d (sem L.env Mf) f [.int .u8 v] H=some (.bool (p v),H,[])) :
 sem L.env Mf 92 [V,f] H=some (.bool (l.any p),H):=by
 have hc:=λd=>b4r hV hl (d:=d) f p hE hf;have he:=c7t p l;generalize b3q p l=x at hc he;rw[←he]
 (refine sv Tryz.f92 ?_;simp only[Tryz.f92,gS])
 (repeat first|simp only[ww]|(apply xa;simp+decide only[go_sem,hc];rfl;kernel_rfl))
 refine a8k (vs:=[.bool _]) (by simp+decide only[go_sem]<;>rfl) (a19 hV rfl)
theorem c07{l:List Nat}{V:AV}{H:a02}(hV:RA l V H)(hl:l.length<1000000){d:Bool}(f:AV)(p:Nat→Bool)(hE:refs f=[])(hf:∀(d:Bool) (H:a02) (v:Nat),a09 L.env d (sem L.env Mf) f [.int .u8 v] H=some (.bool (p v),H,[])) :
 a09 L.env d (sem L.env Mf) (.func (.func 92) [] []) [V,f] H=some (.bool (l.any p),H,refs V):=
 a5n hV (pre:=[]) (post:=[f]) (by kernel_rfl) (by kernel_rfl) rfl (by simp only[a06,a0r,hE,e4t]) rfl (λV H hV=>c7a l V H hV hl f p hE hf)
theorem d6c(l:List Nat)(V:AV)(H:a02)(hV:RA l V H)(hl:l.length<1000000)(w:Nat):sem L.env Mf 223 [V,.int .u8 w] H=some (.int .i64 (b3q (λv=>decide (w=v)) l),H):=by
 have aj:=b7u hV
 suffices hs:∃r:AV×a02,(r=(.int .i64 (b3q (λv=>decide (w=v)) l),H))∧sem L.env Mf 223 [V,.int .u8 w] H=some r by obtain⟨r,rfl,h3⟩:=hs;exact h3
 (refine svE Tryz.f223 ?_;simp only[Tryz.f223,gS])
 (repeat first|simp only[ww]|(apply xa;simp+decide only[go_sem,aj];rfl;kernel_rfl))
 refine a5m kp223_0 (λn F H1=>∃(i:Nat),n=l.length-i∧i≤l.length∧F=[(0,V),(1,.int .u8 w),(7,.int .i64 l.length),(8,.int .i64 i)]∧H1=H∧∀(j v:Nat),j<i→l[j]?=some v→decide (w=v)=false) l.length ?_ ?_
 ·exact⟨_,_,b63 hV (by simp+decide only[go_sem]<;>rfl) (.inl (by simp+decide only[go_sem])),0,rfl,e5q _,rfl,rfl,λj w hj=>by omega⟩
 ·rintro n F H1 ⟨i,rfl,hi,rfl,rfl,hb⟩
  by_cases ak:i<l.length
  ·obtain⟨v,hv⟩:∃v,l[i]?=some v:=⟨_,z9e ak⟩
   obtain⟨q,eb,dw⟩:=b7v hV hv;have c1:(i:Int)<l.length:=by omega
   have hw:=wI1 (n:=i) (by omega);by_cases oY:w=v
   ·subst oY
    (repeat first|simp only[ww]|(apply xa;simp+decide only[go_sem,c1,eb,dw];rfl;kernel_rfl))
    refine a81 (vs:=[.int .i64 i]) (r:=(_,_)) (by simp+decide only[go_sem]) (a19 hV rfl) ?_;rw[c1w hv (by simp) hb];rfl
   ·have c2:¬(w:Int)=v:=by omega
    (repeat first|simp only[ww]|(apply xa;simp+decide only[go_sem,c1,eb,dw,c2,hw];rfl;kernel_rfl))
    refine a2e (l.length-(i+1)) (by omega) ⟨_,_,b63 hV (by simp+decide only[go_sem]<;>rfl) (.inl (by simp+decide only[go_sem])),i+1,rfl,ak,rfl,rfl,λj u hj nX=>?_⟩;by_cases fk:j=i
    ·subst fk;rw[hv]at nX;cases nX;simpa using oY
    ·exact hb j u (by omega) nX
  ·obtain rfl:i=l.length:=by omega
   have c1:¬(l.length:Int)<l.length:=by omega
   (repeat first|simp only[ww]|(apply xa;simp+decide only[go_sem,c1];rfl;kernel_rfl))
   refine a81 (vs:=[.int .i64 (-1)]) (r:=(_,_)) (by simp+decide only[go_sem]) (a19 hV rfl) ?_;rw[b8c hb];rfl
theorem c74{l:List Nat}{V:AV}{H:a02}(hV:RA l V H)(hl:l.length<1000000){d:Bool}(w:Nat):a09 L.env d (sem L.env Mf) (.func (.func 223) [] []) [V,.int .u8 w] H=some (.int .i64 (b3q (λv=>decide (w=v)) l),H,refs V):=a5n hV (pre:=[]) (post:=[.int .u8 w]) (by kernel_rfl) (by kernel_rfl) rfl rfl rfl (λV H hV=>d6c l V H hV hl w)
theorem d1c(l:List Nat)(V:AV)(H:a02)(hV:RA l V H)(hl:l.length<1000000)(w:Nat):sem L.env Mf 195 [V,.int .u8 w] H=some (.bool (decide (w∈l)),H):=by
 have hc:=λd=>c74 hV hl (d:=d) w;have he:=c7t (λv=>decide (w=v)) l;have hm:(l.any λv=>decide (w=v))=decide (w∈l):=by rw[f04,List.any_eq_true,e6l];exact⟨λ⟨x,hx,h⟩=>by rw[of_decide_eq_true h];exact hx,λh=>⟨w,h,by simp⟩⟩
 rw[hm]at he;generalize b3q (λv=>decide (w=v)) l=x at hc he;rw[←he]
 (refine sv Tryz.f195 ?_;simp only[Tryz.f195,gS])
 (repeat first|simp only[ww]|(apply xa;simp+decide only[go_sem,hc];rfl;kernel_rfl))
 refine a8k (vs:=[.bool _]) (by simp+decide only[go_sem]<;>rfl) (a19 hV rfl)
theorem b4s{l:List Nat}{V:AV}{H:a02}(hV:RA l V H)(hl:l.length<1000000){d:Bool}(w:Nat){a:Int}(ha:a=w):a09 L.env d (sem L.env Mf) (.func (.func 195) [] []) [V,.int .u8 a] H=some (.bool (decide (w∈l)),H,refs V):=by subst ha;exact a5n hV (pre:=[]) (post:=[.int .u8 w]) (by kernel_rfl) (by kernel_rfl) rfl rfl rfl (λV H hV=>d1c l V H hV hl w)
theorem d1d(l:List Nat)(V:AV)(H:a02)(hV:RA l V H)(hl:l.length<1000000):sem L.env Mf 153 [V] H=some (.bool (decide (0∈l)&&decide (1∈l)),H):=by
 have h0:=λd=>b4s hV hl (d:=d) 0 (a:=0) rfl;have h1:=λd=>b4s hV hl (d:=d) 1 (a:=1) rfl;generalize decide (1∈l)=y at h1;cases hx:decide (0∈l)with
 |true=>
  rw[hx]at h0
  (refine sv Tryz.f153 ?_;simp only[Tryz.f153,gS])
  (repeat first|simp only[ww]|(apply xa;simp+decide only[go_sem,h0,h1];rfl;kernel_rfl))
  refine a8k (vs:=[.bool y]) (by simp+decide only[go_sem]) (a19 hV rfl)
 |false=>
  rw[hx]at h0
  (refine sv Tryz.f153 ?_;simp only[Tryz.f153,gS])
  (repeat first|simp only[ww]|(apply xa;simp+decide only[go_sem,h0,h1];rfl;kernel_rfl))
  refine a8k (vs:=[.bool false]) (by simp+decide only[go_sem]) (a19 hV rfl)
theorem c3w{l:List Nat}{V:AV}{H:a02}(hV:RA l V H)(hl:l.length<1000000){d:Bool}:a09 L.env d (sem L.env Mf) (.func (.func 153) [] []) [V] H=some (.bool (decide (0∈l)&&decide (1∈l)),H,refs V):=a5n hV (pre:=[]) (post:=[]) (by kernel_rfl) (by kernel_rfl) rfl rfl rfl (λV H hV=>d1d l V H hV hl)
theorem b8o(v:Nat):sem L.env Mf 151 [.int .u8 v] []=some (.int .u8 (a37 v:Nat),[]):=by
 by_cases h:3<v
 ·have c:(3:Int)<v:=by omega
  rw[show a37 v=2 by simp[a37,h]]
  (refine sv Tryz.f151 ?_;simp only[Tryz.f151,gS])
  (repeat first|simp only[ww]|(apply xa;simp+decide only[go_sem,c];rfl;kernel_rfl))
  (apply fqb;simp+decide only[go_sem]<;>rfl)
 ·have c:¬(3:Int)<v:=by omega
  rw[show a37 v=v by simp[a37,h]]
  (refine sv Tryz.f151 ?_;simp only[Tryz.f151,gS])
  (repeat first|simp only[ww]|(apply xa;simp+decide only[go_sem,c];rfl;kernel_rfl))
  (apply fqb;simp+decide only[go_sem]<;>rfl)
theorem d1f(v:Nat):sem L.env Mf 150 [.int .u8 v] []=some (.bool (decide (a37 v=2)),[]):=by
 have hc:∀(d:Bool) H,a09 L.env d (sem L.env Mf) (.func (.func 151) [] []) [.int .u8 v] H=some (.int .u8 (a37 v:Nat),H,[]):=λd H=>a04 (by kernel_rfl) (by kernel_rfl) rfl rfl (b8o v) rfl;have e:decide (((a37 v:Nat):Int)=2)=decide (a37 v=2):=by rw[decide_eq_decide];omega
 generalize a37 v=w at hc e
 (refine sv Tryz.f150 ?_;simp only[Tryz.f150,gS])
 (repeat first|simp only[ww]|(apply xa;simp+decide only[go_sem,hc,e];rfl;kernel_rfl))
 (apply fqb;simp+decide only[go_sem]<;>rfl)
theorem d1e(v:Nat):sem L.env Mf 152 [.int .u8 v] []=some (.bool (decide (v≠3)),[]):=by
 have e:(!decide ((v:Int)=3))=decide (v≠3):=by
  by_cases h:v=3
  ·subst h;rfl
  ·have:¬(v:Int)=3:=by omega
   simp[h,this]
 (refine sv Tryz.f152 ?_;simp only[Tryz.f152,gS])
 (repeat first|simp only[ww]|(apply xa;simp+decide only[go_sem,e];rfl;kernel_rfl))
 (apply fqb;simp+decide only[go_sem]<;>rfl)
theorem d6d(l:List Nat)(V:AV)(H:a02)(hV:RA l V H)(hl:l.length<1000000):sem L.env Mf 114 [V] H=some (.int .u8 (c50 l:Nat),H):=by
 have h1:∀(d:Bool) (H:a02) (v:Nat),a09 L.env d (sem L.env Mf) (.func (.func 150) [] []) [.int .u8 v] H=some (.bool (decide (a37 v=2)),H,[]):=λd H v=>a04 (by kernel_rfl) (by kernel_rfl) rfl rfl (d1f v) rfl;have h2:∀(d:Bool) (H:a02) (v:Nat),a09 L.env d (sem L.env Mf) (.func (.func 152) [] []) [.int .u8 v] H=some (.bool (decide (v≠3)),H,[]):=λd H v=>a04 (by kernel_rfl) (by kernel_rfl) rfl rfl (d1e v) rfl;have c1:=λd=>b4r hV hl (d:=d) _ (λv=>decide (v≠3)) rfl h2;have c2:=λd=>c07 hV hl (d:=d) _ (λv=>decide (a37 v=2)) rfl h1;have c3:=λd=>c3w hV hl (d:=d);unfold c50;unfold b3q at c1;cases hf:l.findIdx? (λv=>decide (v≠3))with
 |none=>
  rw[hf]at c1;dsimp only at c1⊢
  (refine sv Tryz.f114 ?_;simp only[Tryz.f114,gS])
  (repeat first|simp only[ww]|(apply xa;simp+decide only[go_sem,c1];rfl;kernel_rfl))
  refine a8k (vs:=[.int .u8 3]) (by simp+decide only[go_sem]) (a19 hV rfl)
 |some i=>
  rw[hf]at c1;dsimp only at c1⊢;have hi:=(List.findIdx?_eq_some_iff_getElem.1 hf).1;obtain⟨v,hv⟩:∃v,l[i]?=some v:=⟨_,z9e hi⟩
  obtain⟨q,eb,dw⟩:=b7v hV hv;have hg:l.getD i 0=v:=by rw[List.getD,hv];rfl
  have c0:¬(i:Int)<0:=by omega
  rw[hg];generalize(decide (0∈l)&&decide (1∈l))=x at c3⊢;generalize(l.any λv=>decide (a37 v=2))=y at c2⊢;cases x with
  |true=>
   (refine sv Tryz.f114 ?_;simp only[Tryz.f114,gS])
   (repeat first|simp only[ww]|(apply xa;simp+decide only[go_sem,c1,c2,c3,c0];rfl;kernel_rfl))
   refine a8k (vs:=[.int .u8 2]) (by simp+decide only[go_sem]) (a19 hV rfl)
  |false=>cases y with
   |true=>
    (refine sv Tryz.f114 ?_;simp only[Tryz.f114,gS])
    (repeat first|simp only[ww]|(apply xa;simp+decide only[go_sem,c1,c2,c3,c0];rfl;kernel_rfl))
    refine a8k (vs:=[.int .u8 2]) (by simp+decide only[go_sem]) (a19 hV rfl)
   |false=>
    (refine sv Tryz.f114 ?_;simp only[Tryz.f114,gS])
    (repeat first|simp only[ww]|(apply xa;simp+decide only[go_sem,c1,c2,c3,c0,eb,dw];rfl;kernel_rfl))
    refine a8k (vs:=[.int .u8 v]) (by simp+decide only[go_sem]) (a19 hV rfl)
theorem c7b{l:List Nat}{V:AV}{H:a02}(hV:RA l V H)(hl:l.length<1000000){d:Bool}:a09 L.env d (sem L.env Mf) (.func (.func 114) [] []) [V] H=some (.int .u8 (c50 l:Nat),H,refs V):=a5n hV (pre:=[]) (post:=[]) (by kernel_rfl) (by kernel_rfl) rfl rfl rfl (λV H hV=>d6d l V H hV hl)
theorem d3y{l:List Nat}{V:AV}{H:a02}(h:RA l V H):a0e V=[]∨a0e V=[0]:=by
 cases h with
 |imm r=>exact .inl (by simp only[go_sem])
 |blk c ai hf=>exact .inr rfl
theorem d5o{l:List Nat}{V:AV}{H:a02}(h:RA l V H){i v:Nat}(hi:l[i]?=some v):∃p,a0p L.env (a01 H) 52 V (.int .i64 i)=some p∧a5h L.env (a01 H) 53 p=some (.int .u8 v)∧a0e p=a0e V:=by
 have ak:=(e5k.1 hi).1;cases h with
 |imm r=>exact⟨_,by simp+decide only[go_sem,hi,ak]<;>rfl,by simp+decide only[go_sem,hi,ak],by simp+decide only[go_sem]⟩
 |blk c ai hf=>
  have hg:(l.map u8R++ai)[i]?=some [.int .u8 v]:=by rw[e6j (by simpa using ak),e5n,hi];rfl
  have e6:i<(l.map u8R++ai).length:=by simp;omega
  exact⟨_,by simp+decide only[go_sem,hg,ak,e6]<;>rfl,by simp+decide only[go_sem,hg,ak,e6],by simp+decide only[go_sem]⟩
theorem d1b(k:Nat)(hk:k<16)(l:List Nat)(V:AV)(H:a02)(hV:RA l V H)(hl:l.length<1000000):sem L.env Mf 62 [.int .u8 k,V] H=some (.int .u8 (a6f k l:Nat),H):=by
 have hf:=λd H=>b53 (d:=d) H k hk;have aj:=b7u hV;by_cases bM:l.length<a1s k
 ·have c1:(l.length:Int)<a1s k:=by omega
  rw[show a6f k l=2 by simp[a6f,bM]]
  (refine sv Tryz.f62 ?_;simp only[Tryz.f62,gS])
  (repeat first|simp only[ww]|(apply xa;simp+decide only[go_sem,hf,c1,aj];rfl;kernel_rfl))
  refine a8k (vs:=[.int .u8 2]) (by simp+decide only[go_sem]) (a19 hV rfl)
 have c1:¬(l.length:Int)<a1s k:=by omega
 by_cases kq:a21 k<l.length
 ·have c2:(a21 k:Int)<l.length:=by omega
  rw[show a6f k l=2 by simp[a6f,kq]]
  (refine sv Tryz.f62 ?_;simp only[Tryz.f62,gS])
  (repeat first|simp only[ww]|(apply xa;simp+decide only[go_sem,hf,c1,c2,aj];rfl;kernel_rfl))
  refine a8k (vs:=[.int .u8 2]) (by simp+decide only[go_sem]) (a19 hV rfl)
 have c2:¬(a21 k:Int)<l.length:=by omega
 rw[show a6f k l=a2y k l by unfold a6f;rw[e5s (by omega)]];have lo:a1s k≤l.length:=by omega
 clear bM kq;have g:∀(i:Nat) (j:Int),j=i→i<a1s k→∃v p,l.getD i 2=v∧a0p L.env (a01 H) 52 V (.int .i64 j)=some p∧a5h L.env (a01 H) 53 p=some (.int .u8 v)∧a0e p=a0e V:=by
  intro i j hj hi;subst hj;obtain⟨v,hv⟩:∃v,l[i]?=some v:=⟨_,z9e (by omega)⟩
  obtain⟨p,h1,h2,h3⟩:=d5o hV hv;exact⟨v,p,by rw[List.getD,hv];rfl,h1,h2,h3⟩
 have ca:=λ(d:Bool)=>c7c hV hl (d:=d);have co:=λ(d:Bool)=>d18 hV hl (d:=d);have cx:=λ(d:Bool)=>c6x hV hl (d:=d);have cb:=λ(d:Bool)=>c7b hV hl (d:=d);have cn:=λ(d:Bool) (H:a02) (v:Nat)=>c71 (d:=d) H v;have cr:=λ(d:Bool) (H:a02) (v:Nat)=>a5w (d:=d) H v;have cm:=λ(d:Bool) (H:a02) (s a b:Nat)=>c72 (d:=d) H s a b;have ct:=λ(d:Bool) (H:a02) (a b:Nat)=>c6y (d:=d) H a b;have lG:k=0∨k=1∨k=2∨k=3∨k=4∨k=5∨k=6∨k=7∨k=8∨k=9∨k=10∨k=11∨k=12∨k=13∨k=14∨k=15:=by omega
 (refine sv Tryz.f62 ?_;simp only[Tryz.f62,gS])
 (repeat first|simp only[ww]|(apply xa;simp+decide only[go_sem,hf,c1,c2,aj];rfl;kernel_rfl))
 rcases lG with rfl|rfl|rfl|rfl|rfl|rfl|rfl|rfl|rfl|rfl|rfl|rfl|rfl|rfl|rfl|rfl
 ·rw[show a2y 0 l=2 from rfl]
  (repeat first|simp only[ww]|(apply xa;simp+decide only[go_sem];rfl;kernel_rfl))
  exact a8k (vs:=[.int .u8 _]) (by simp+decide only[go_sem]<;>rfl) (a19 hV rfl)
 ·rw[show a2y 1 l=0 from rfl]
  (repeat first|simp only[ww]|(apply xa;simp+decide only[go_sem];rfl;kernel_rfl))
  exact a8k (vs:=[.int .u8 _]) (by simp+decide only[go_sem]<;>rfl) (a19 hV rfl)
 ·rw[show a2y 2 l=1 from rfl]
  (repeat first|simp only[ww]|(apply xa;simp+decide only[go_sem];rfl;kernel_rfl))
  exact a8k (vs:=[.int .u8 _]) (by simp+decide only[go_sem]<;>rfl) (a19 hV rfl)
 ·obtain⟨v0,p0,e0,a0,b0,t0⟩:=g 0 0 rfl (by decide);rw[show a2y 3 l=a3r (l.getD 0 2)from rfl,e0]
  (repeat first|simp only[ww]|(apply xa;simp+decide only[go_sem,cr,a0,b0];rfl;kernel_rfl))
  exact a8k (vs:=[.int .u8 _]) (by simp+decide only[go_sem]<;>rfl) (a19 hV rfl)
 ·obtain⟨v0,p0,e0,a0,b0,t0⟩:=g 0 0 rfl (by decide);rw[show a2y 4 l=b0l (l.getD 0 2)from rfl,e0]
  (repeat first|simp only[ww]|(apply xa;simp+decide only[go_sem,cn,a0,b0];rfl;kernel_rfl))
  exact a8k (vs:=[.int .u8 _]) (by simp+decide only[go_sem]<;>rfl) (a19 hV rfl)
 ·rw[show a2y 5 l=a4y 0 1 1 l from rfl]
  (repeat first|simp only[ww]|(apply xa;simp+decide only[go_sem,ca];rfl;kernel_rfl))
  exact a8k (vs:=[.int .u8 _]) (by simp+decide only[go_sem]<;>rfl) (a19 hV rfl)
 ·rw[show a2y 6 l=b0l (a4y 0 1 1 l)from rfl]
  (repeat first|simp only[ww]|(apply xa;simp+decide only[go_sem,ca,cn];rfl;kernel_rfl))
  exact a8k (vs:=[.int .u8 _]) (by simp+decide only[go_sem]<;>rfl) (a19 hV rfl)
 ·rw[show a2y 7 l=a4y 1 0 0 l from rfl]
  (repeat first|simp only[ww]|(apply xa;simp+decide only[go_sem,co];rfl;kernel_rfl))
  exact a8k (vs:=[.int .u8 _]) (by simp+decide only[go_sem]<;>rfl) (a19 hV rfl)
 ·rw[show a2y 8 l=b0l (a4y 1 0 0 l)from rfl]
  (repeat first|simp only[ww]|(apply xa;simp+decide only[go_sem,co,cn];rfl;kernel_rfl))
  exact a8k (vs:=[.int .u8 _]) (by simp+decide only[go_sem]<;>rfl) (a19 hV rfl)
 ·rw[show a2y 9 l=b1i 0 l from rfl]
  (repeat first|simp only[ww]|(apply xa;simp+decide only[go_sem,cx];rfl;kernel_rfl))
  exact a8k (vs:=[.int .u8 _]) (by simp+decide only[go_sem]<;>rfl) (a19 hV rfl)
 ·rw[show a2y 10 l=b0l (b1i 0 l)from rfl]
  (repeat first|simp only[ww]|(apply xa;simp+decide only[go_sem,cx,cn];rfl;kernel_rfl))
  exact a8k (vs:=[.int .u8 _]) (by simp+decide only[go_sem]<;>rfl) (a19 hV rfl)
 ·obtain⟨v0,p0,e0,a0,b0,t0⟩:=g 0 0 rfl (by decide);obtain⟨v1,p1,e1,a1,b1,t1⟩:=g 1 1 rfl (by decide);obtain⟨v2,p2,e2,a2,b2,t2⟩:=g 2 2 rfl (by decide);rw[show a2y 11 l=b27 (l.getD 0 2) (l.getD 1 2) (l.getD 2 2)from rfl,e0,e1,e2];rcases d3y hV with htp|htp
  ·(repeat first|simp only[ww]|(apply xa;simp+decide only[go_sem,cm,a0,b0,a1,b1,a2,b2,t0,t1,t2,htp];rfl;kernel_rfl))
   exact a8k (vs:=[.int .u8 _]) (by simp+decide only[go_sem]<;>rfl) (a19 hV rfl)
  ·(repeat first|simp only[ww]|(apply xa;simp+decide only[go_sem,cm,a0,b0,a1,b1,a2,b2,t0,t1,t2,htp];rfl;kernel_rfl))
   exact a8k (vs:=[.int .u8 _]) (by simp+decide only[go_sem]<;>rfl) (a19 hV rfl)
 ·obtain⟨v0,p0,e0,a0,b0,t0⟩:=g 0 0 rfl (by decide);obtain⟨v1,p1,e1,a1,b1,t1⟩:=g 1 1 rfl (by decide);rw[show a2y 12 l=b7e (l.getD 0 2) (l.getD 1 2)from rfl,e0,e1];rcases d3y hV with htp|htp
  ·(repeat first|simp only[ww]|(apply xa;simp+decide only[go_sem,ct,a0,b0,a1,b1,t0,t1,htp];rfl;kernel_rfl))
   exact a8k (vs:=[.int .u8 _]) (by simp+decide only[go_sem]<;>rfl) (a19 hV rfl)
  ·(repeat first|simp only[ww]|(apply xa;simp+decide only[go_sem,ct,a0,b0,a1,b1,t0,t1,htp];rfl;kernel_rfl))
   exact a8k (vs:=[.int .u8 _]) (by simp+decide only[go_sem]<;>rfl) (a19 hV rfl)
 ·rw[show a2y 13 l=c50 l from rfl]
  (repeat first|simp only[ww]|(apply xa;simp+decide only[go_sem,cb];rfl;kernel_rfl))
  exact a8k (vs:=[.int .u8 _]) (by simp+decide only[go_sem]<;>rfl) (a19 hV rfl)
 ·rw[show a2y 14 l=2 from rfl]
  (repeat first|simp only[ww]|(apply xa;simp+decide only[go_sem];rfl;kernel_rfl))
  exact a8k (vs:=[.int .u8 _]) (by simp+decide only[go_sem]<;>rfl) (a19 hV rfl)
 ·rw[show a2y 15 l=2 from rfl]
  (repeat first|simp only[ww]|(apply xa;simp+decide only[go_sem];rfl;kernel_rfl))
  exact a8k (vs:=[.int .u8 _]) (by simp+decide only[go_sem]<;>rfl) (a19 hV rfl)
theorem a72(π:Nat→Option Nat)(l:List Nat):(l.map u8R).map (λr=>r.map (ren π))=l.map u8R:=a08 π (a42 l)
theorem a6b(l:List Nat):(l.map u8R).flatMap a0a=[]:=a0c (a42 l)
theorem d0d(c:Cir)(hc:c.wf)(p:Pat)(hp:PatOk c.nodes p)(N0:List Nat)(hN:N0.length=c.nodes.length) :
 sem L.env Mf 60 [.agg [sl c.nc (c.nodes.map Nd.enc),sl c.mc (c.names.map a3a),.nilslice,sl c.oc (c.outs.map a0s),.slice 0 0 c.nodes.length (some c.nodes.length)],.agg p.enc] [some (.row 1 (N0.map u8R))]=some (.tuple [],[some (.row 1 ((a2f (a2f N0 (kinds c.nodes 0) p.ins) (kinds c.nodes 14) p.sts).map u8R))]):=by
 have cY:=hc.len;obtain⟨r0,e3⟩:=a4k (kinds c.nodes 0);obtain⟨r1,e4⟩:=a4k (kinds c.nodes 14);have hk0:=a4a c.nodes 0;have jK:=a4a c.nodes 14;have hi:=λ(d:Bool) H=>a40 (d:=d) H c (by omega);have hs:=λ(d:Bool) H=>a66 (d:=d) H c (by omega);have my:=hp.ins;have eG:=hp.sts;rw[e3]at hi;rw[e4]at hs;have dv:Pat.enc p=[sl p.ic (p.ins.map u8R),sl p.sc (p.sts.map u8R)]:=rfl;rw[dv];simp only[Cir.enc]at hi hs
 suffices hs:∃r:AV×a02,(r=(.tuple [],[some (.row 1 ((a2f (a2f N0 (kinds c.nodes 0) p.ins) (kinds c.nodes 14) p.sts).map u8R))]))∧sem L.env Mf 60 [.agg [sl c.nc (c.nodes.map Nd.enc),sl c.mc (c.names.map a3a),.nilslice,sl c.oc (c.outs.map a0s),.slice 0 0 c.nodes.length (some c.nodes.length)],.agg [sl p.ic (p.ins.map u8R),sl p.sc (p.sts.map u8R)]] [some (.row 1 (N0.map u8R))]=some r by obtain⟨r,rfl,h3⟩:=hs;exact h3
 (refine svE Tryz.f60 ?_;simp only[Tryz.f60,gS])
 (repeat first|simp only[ww]|(apply xa;simp+decide only[go_sem,hi];rfl;kernel_rfl))
 refine a0m (σ:=Nat) kp60_0 (λi=>[(2,.ptr 1 0 0),(3,.ptr 2 0 0),(10,sl r0 ((kinds c.nodes 0).map a0s)),(11,.int .i64 (kinds c.nodes 0).length),(12,.int .i64 i)])
  (λi=>[some (.row 1 ((a2f N0 ((kinds c.nodes 0).take i) (p.ins.take i)).map u8R)),some (.row 5 [[sl c.nc (c.nodes.map Nd.enc),sl c.mc (c.names.map a3a),.nilslice,sl c.oc (c.outs.map a0s),.slice 0 0 c.nodes.length (some c.nodes.length)]]),some (.row 2 [[sl p.ic (p.ins.map u8R),sl p.sc (p.sts.map u8R)]])]) (λi=>(kinds c.nodes 0).length-i) (λi=>i≤(kinds c.nodes 0).length) 0 ?_ (e5q _) ?_
 ·rw[e71,e71,show a2f N0 [] []=N0 from rfl]
  (simp+decide only[go_sem,a03,a00,a72,a6b]<;>rfl)<;>rfl
 ·intro i hi;have cq:=a79 ((kinds c.nodes 0).take i) (p.ins.take i) N0;rw[hN]at cq;by_cases ak:i<(kinds c.nodes 0).length
  ·obtain⟨n,hn⟩:∃n,(kinds c.nodes 0)[i]?=some n:=⟨_,z9e ak⟩
   obtain⟨w,hw⟩:∃w,p.ins[i]?=some w:=⟨_,z9e (by omega)⟩
   have eX:=(b2i hn).1;have aI:=b4p (al:=N0) hn hw;have c1:(i:Int)<(kinds c.nodes 0).length:=by omega
   have bt:=wI1 (n:=i) (by omega);have n3:i<p.ins.length:=by omega
   generalize a2f N0 ((kinds c.nodes 0).take i) (p.ins.take i)=N at aI cq;obtain⟨w0,bZ⟩:∃w,N[n]?=some w:=⟨_,z9e (by omega)⟩
   have kY:(N.map u8R).set n [AV.int .u8 w]=(N.set n w).map u8R:=by rw[f09];rfl
   (repeat first|simp only[ww]|(apply xa;simp+decide only[go_sem,c1,ak,hn,hw,eX,bt,n3,cq,bZ,kY];rfl;kernel_rfl))
   refine a28 (i+1) ?_ (by omega) (by omega);rw[aI]
   (simp+decide only[go_sem,a03,a00,a72,a6b]<;>rfl)<;>rfl
  have ee:i=(kinds c.nodes 0).length:=by omega
  subst ee;have c1:¬((kinds c.nodes 0).length:Int)<(kinds c.nodes 0).length:=by omega
  rw[e82,e5o (by omega)]at cq⊢;generalize a2f N0 (kinds c.nodes 0) p.ins=N1 at cq⊢
  (repeat first|simp only[ww]|(apply xa;simp+decide only[go_sem,c1,hs];rfl;kernel_rfl))
  refine a0m (σ:=Nat) kp60_2 (λi=>[(2,.ptr 1 0 0),(3,.ptr 2 0 0),(29,sl r1 ((kinds c.nodes 14).map a0s)),(30,.int .i64 (kinds c.nodes 14).length),(31,.int .i64 i)])
   (λi=>[some (.row 1 ((a2f N1 ((kinds c.nodes 14).take i) (p.sts.take i)).map u8R)),some (.row 5 [[sl c.nc (c.nodes.map Nd.enc),sl c.mc (c.names.map a3a),.nilslice,sl c.oc (c.outs.map a0s),.slice 0 0 c.nodes.length (some c.nodes.length)]]),some (.row 2 [[sl p.ic (p.ins.map u8R),sl p.sc (p.sts.map u8R)]])]) (λi=>(kinds c.nodes 14).length-i) (λi=>i≤(kinds c.nodes 14).length) 0 ?_ (e5q _) ?_
  ·rw[e71,e71,show a2f N1 [] []=N1 from rfl]
   (simp+decide only[go_sem,a03,a00,a72,a6b]<;>rfl)<;>rfl
  ·intro i hi;have jH:=a79 ((kinds c.nodes 14).take i) (p.sts.take i) N1;rw[cq]at jH;by_cases ak:i<(kinds c.nodes 14).length
   ·obtain⟨n,hn⟩:∃n,(kinds c.nodes 14)[i]?=some n:=⟨_,z9e ak⟩
    obtain⟨w,hw⟩:∃w,p.sts[i]?=some w:=⟨_,z9e (by omega)⟩
    have eX:=(b2i hn).1;have aI:=b4p (al:=N1) hn hw;have c1:(i:Int)<(kinds c.nodes 14).length:=by omega
    have bt:=wI1 (n:=i) (by omega);have n3:i<p.sts.length:=by omega
    generalize a2f N1 ((kinds c.nodes 14).take i) (p.sts.take i)=N at aI jH;obtain⟨w0,bZ⟩:∃w,N[n]?=some w:=⟨_,z9e (by omega)⟩
    have kY:(N.map u8R).set n [AV.int .u8 w]=(N.set n w).map u8R:=by rw[f09];rfl
    (repeat first|simp only[ww]|(apply xa;simp+decide only[go_sem,c1,ak,hn,hw,eX,bt,n3,jH,bZ,kY];rfl;kernel_rfl))
    refine a28 (i+1) ?_ (by omega) (by omega);rw[aI]
    (simp+decide only[go_sem,a03,a00,a72,a6b]<;>rfl)<;>rfl
   have ee:i=(kinds c.nodes 14).length:=by omega
   subst ee;have c1:¬((kinds c.nodes 14).length:Int)<(kinds c.nodes 14).length:=by omega
   rw[e82,e5o (by omega)]
   (repeat first|simp only[ww]|(apply xa;simp+decide only[go_sem,c1];rfl;kernel_rfl))
   refine b6p (vs:=[]) (r:=(_,[_])) (by simp+decide only[go_sem]) ?_ rfl;simp+decide only[go_sem,a72]<;>rfl
def a3m:List Nat→AV
 | []=>.nilslice
 |v::r=>.islice ((v::r).map u8R) (some (r.length+1))
theorem a2j(l:List Nat):refs (a3m l)=[]:=by cases l<;>rfl
def b9o(o x:List Nat):AV:=.agg [a3m o,a3m x]
theorem b1u(o x:List Nat):refs (b9o o x)=[]:=by simp only[b9o,a0z,a06,a2j,a0r,e4t]
theorem c5k(c:Cir)(al:List Nat)(hl:al.length=c.nodes.length)(hv:∀v∈al,v≤3)(n v:Nat)(hn:al[n]?=some v):sem L.env Mf 115 [.agg [sl c.nc (c.nodes.map Nd.enc),sl c.mc (c.names.map a3a),.nilslice,sl c.oc (c.outs.map a0s),.slice 0 0 c.nodes.length (some c.nodes.length)],.int .i64 n] [some (.row 1 (al.map u8R))]=some (.int .u8 v,[some (.row 1 (al.map u8R))]):=by
 have ak:=(e5k.1 hn).1;have h0:¬(n:Int)<0:=by omega
 have h1:¬(c.nodes.length:Int)≤n:=by omega
 have h2:n<c.nodes.length:=by omega
 have hc:∀(d:Bool) H,a09 L.env d (sem L.env Mf) (.func (.func 151) [] []) [.int .u8 v] H=some (.int .u8 v,H,[]):=λd H=>by have:=a04 (E:=L.env) (ah:=d) (call:=sem L.env Mf) (fs:=[]) (cs:=[]) (ar:=[.int .u8 v]) (v:=.int .u8 (a37 v:Nat)) (H:=H) (g:=151) (by kernel_rfl) (by kernel_rfl) rfl rfl (b8o v) rfl;rw[c2e (hv v (e12 hn))]at this;exact this
 (refine sv Tryz.f115 ?_;simp only[Tryz.f115,gS])
 (repeat first|simp only[ww]|(apply xa;simp+decide only[go_sem,h0,h1,h2,hl,hn,hc];rfl;kernel_rfl))
 refine a8k (vs:=[.int .u8 v]) (by simp+decide only[go_sem]) ?_;simp+decide only[go_sem,a72]<;>rfl
theorem b9b{d:Bool}{H:a02}{b:Nat}(c:Cir)(al:List Nat)(hl:al.length=c.nodes.length)(hv:∀v∈al,v≤3)(n v:Nat)(hn:al[n]?=some v)(hb:a01 H b=some (.row 1 (al.map u8R))) :
 a09 L.env d (sem L.env Mf) (.func (.func 115) [] []) [.agg [sl c.nc (c.nodes.map Nd.enc),sl c.mc (c.names.map a3a),.nilslice,sl c.oc (c.outs.map a0s),.slice b 0 c.nodes.length (some c.nodes.length)],.int .i64 n] H=some (.int .u8 v,H,[b]):=
 a2h (fs:=[]) (cs:=[]) (ar:=[.agg [sl c.nc (c.nodes.map Nd.enc),sl c.mc (c.names.map a3a),.nilslice,sl c.oc (c.outs.map a0s),.slice b 0 c.nodes.length (some c.nodes.length)],.int .i64 n]) (by kernel_rfl) (by kernel_rfl) rfl hb (a0j (a42 al)) (FlatO.row (a42 al)) (by simp only[e5m,e4t,go_sem]) (aq:=[.agg [sl c.nc (c.nodes.map Nd.enc),sl c.mc (c.names.map a3a),.nilslice,sl c.oc (c.outs.map a0s),.slice 0 0 c.nodes.length (some c.nodes.length)],.int .i64 n]) (by simp only[e5m,e4t,e4r,e5j,b9q,a1u,b7r,a73,c64]) (c5k c al hl hv n v hn) rfl
theorem d2q(n:Nat)(aa:List (List AV))(hf:FlatR aa):sem L.env Mf 116 [.slice 0 0 n none] [some (.row 1 aa)]=some (.slice 0 0 n (some n),[some (.row 1 aa)]):=by
 have h1:=λπ=>a08 π hf
 (refine sv Tryz.f116 ?_;simp only[Tryz.f116,gS])
 (repeat first|simp only[ww]|(apply xa;simp+decide only[go_sem];rfl;kernel_rfl))
 (apply fqb;simp+decide only[go_sem,h1]<;>rfl)
theorem b5a{d:Bool}{H:a02}{b n:Nat}{aa:List (List AV)}(hf:FlatR aa)(hb:a01 H b=some (.row 1 aa)):a09 L.env d (sem L.env Mf) (.func (.func 116) [] []) [.slice b 0 n none] H=some (.slice b 0 n (some n),H,[b]):=by have h:=a43 (E:=L.env) (ah:=d) (call:=sem L.env Mf) (g:=116) (fs:=[]) (cs:=[]) (ar:=[.slice b 0 n none]) (H:=H) (b:=b) (by kernel_rfl) (by kernel_rfl) rfl hb (a0j hf) (FlatO.row hf) rfl (aq:=[AV.slice 0 0 n none]) (by simp only[e5m,e4t,e4r,e5j,a1u]) (d2q n aa hf) (FlatO.row hf) (a5e b 0 _ n _);rw[a8s hb]at h;exact h
theorem c8o:sem L.env Mf 116 [.nilslice] []=some (.nilslice,[]):=by
 (refine sv Tryz.f116 ?_;simp only[Tryz.f116,gS])
 (repeat first|simp only[ww]|(apply xa;simp+decide only[go_sem];rfl;kernel_rfl))
 (apply fqb;simp+decide only[go_sem]<;>rfl)
theorem c0r{d:Bool}(H:a02):a09 L.env d (sem L.env Mf) (.func (.func 116) [] []) [.nilslice] H=some (.nilslice,H,[]):=a04 (by kernel_rfl) (by kernel_rfl) rfl rfl c8o rfl
def a1r(nodes:List Nd)(al:List Nat):List Nat:=(kinds nodes 14).map λn=>a3r (al.getD ((a35 nodes n).getD 0 0) 0)
def a1p(outs al:List Nat):List Nat:=outs.map λn=>al.getD n 0
theorem d5a(c:Cir)(hc:c.wf)(hO:c.outs≠[])(al:List Nat)(hl:al.length=c.nodes.length)(hv:∀v∈al,v≤3):sem L.env Mf 63 [.agg [sl c.nc (c.nodes.map Nd.enc),sl c.mc (c.names.map a3a),.nilslice,sl c.oc (c.outs.map a0s),.slice 0 0 c.nodes.length (some c.nodes.length)]] [some (.row 1 (al.map u8R))]=some (b9o (a1p c.outs al) (a1r c.nodes al),[some (.row 1 (al.map u8R))]):=by
 have cY:=hc.len;have bQ:=hc.outl;obtain⟨r1,e4⟩:=a4k (kinds c.nodes 14);have jK:=a4a c.nodes 14;have hs:=λ(d:Bool) H=>a66 (d:=d) H c (by omega);rw[e4]at hs;simp only[Cir.enc]at hs;have cF:=λ(d:Bool) (H:a02) (n v:Nat) (hn:al[n]?=some v) (hb:a01 H 0=some (.row 1 (al.map u8R)))=>b9b (d:=d) (H:=H) (b:=0) c al hl hv n v hn hb;have j9:=a42 al;have n1:=a0c j9;have n2:=λπ=>a08 π j9
 suffices hs:∃r:AV×a02,(r=(b9o (a1p c.outs al) (a1r c.nodes al),[some (.row 1 (al.map u8R))]))∧sem L.env Mf 63 [.agg [sl c.nc (c.nodes.map Nd.enc),sl c.mc (c.names.map a3a),.nilslice,sl c.oc (c.outs.map a0s),.slice 0 0 c.nodes.length (some c.nodes.length)]] [some (.row 1 (al.map u8R))]=some r by obtain⟨r,rfl,h3⟩:=hs;exact h3
 (refine svE Tryz.f63 ?_;simp only[Tryz.f63,gS])
 generalize hNR:al.map u8R=NR at cF j9 n1 n2
 (repeat first|simp only[ww]|(apply xa;simp+decide only[go_sem];rfl;kernel_rfl))
 refine a5m kp63_0 (λn F H=>∃i,n=c.outs.length-i∧i≤c.outs.length∧F=[(1,.ptr 1 0 0),(2,.ptr 2 0 0),(3,.ptr 3 0 0),(12,sl c.oc (c.outs.map a0s)),(13,.int .i64 c.outs.length),(14,.int .i64 i)]∧H=[some (.row 1 NR),some (.row 5 [[sl c.nc (c.nodes.map Nd.enc),sl c.mc (c.names.map a3a),.nilslice,sl c.oc (c.outs.map a0s),.slice 0 0 c.nodes.length (some c.nodes.length)]]),some (.row 2 [[.nilslice,.nilslice]]),some (.row 2 [[grV 4 ((a1p (c.outs.take i) al).map u8R),.nilslice]])]++grH 1 ((a1p (c.outs.take i) al).map u8R)) c.outs.length ?_ ?_
 ·refine⟨_,_,?_,0,rfl,e5q _,rfl,rfl⟩;rw[e71,show a1p [] al=[]from rfl]
  (simp+decide only[go_sem,a03,a00,a17,a18,e5j,n1,n2]<;>rfl)<;>rfl
 ·rintro n F H ⟨i,rfl,hi,rfl,rfl⟩
  have kC:((a1p (c.outs.take i) al).map u8R).length=i:=by simp[a1p];omega
  have iD:=a42 (a1p (c.outs.take i) al);by_cases ak:i<c.outs.length
  ·obtain⟨o,ho⟩:∃o,c.outs[i]?=some o:=⟨_,z9e ak⟩
   have nE:=hc.outs o (e12 ho);obtain⟨v,lq⟩:∃v,al[o]?=some v:=⟨_,z9e (by omega)⟩
   have c1:(i:Int)<c.outs.length:=by omega
   have bt:=wI1 (n:=i) (by omega);have fv:(a1p (c.outs.take (i+1)) al).map u8R=(a1p (c.outs.take i) al).map u8R++[[.int .u8 v]]:=by unfold a1p;rw[a1a ho,e6r,e6r];simp only[e4r,e5j,List.getD,lq,e7v];rfl
   have bU:=λ(d:Bool) (H:a02) (hb:a01 H 0=some (.row 1 NR))=>cF d H o v lq hb;generalize(a1p (c.outs.take i) al).map u8R=T at kC iD fv;have fa:=a0c iD;have iJ:=λπ=>a08 π iD;cases T with
   |nil=>
    have bU:=λ(d:Bool) (x1 x2 x3:Option AObj)=>bU d [some (.row 1 NR),x1,x2,x3] rfl
    (repeat first|simp only[ww]|(apply xa;simp+decide only[go_sem,c1,ak,ho,bt,bU,a17,a18];rfl;kernel_rfl))
    refine a2e (c.outs.length-(i+1)) (by omega) ⟨_,_,?_,i+1,rfl,ak,rfl,rfl⟩;rw[fv]
    (simp+decide only[go_sem,a03,a00,a0k,a0l,e5m,e5r,n1,n2]<;>rfl)<;>rfl
   |cons a r=>
    simp only[e5l]at kC;have aN:r.length+1+1≤1000000000:=by omega
    simp only[List.flatMap_cons]at fa;simp only[e4r,List.cons.injEq]at iJ;have bU:=λ(d:Bool) (x1 x2 x3 x4:Option AObj)=>bU d [some (.row 1 NR),x1,x2,x3,x4] rfl
    (repeat first|simp only[ww]|(apply xa;simp+decide only[go_sem,c1,ak,ho,bt,bU,a0k,a0l,aN];rfl;kernel_rfl))
    refine a2e (c.outs.length-(i+1)) (by omega) ⟨_,_,?_,i+1,rfl,ak,rfl,rfl⟩;rw[fv]
    (simp+decide only[go_sem,a03,a00,a0k,a0l,e7p,fa,iJ,n1,n2]<;>rfl)<;>rfl
  ·obtain rfl:i=c.outs.length:=by omega
   have c1:¬(c.outs.length:Int)<c.outs.length:=by omega
   rw[e82]at kC iD⊢;have sB:0<c.outs.length:=List.length_pos_iff.2 hO;have rL:a3m (a1p c.outs al) = .islice ((a1p c.outs al).map u8R) (some c.outs.length):=by
    have go:(a1p c.outs al).length=c.outs.length:=by simp[a1p]
    cases ho:a1p c.outs al with
    |nil=>rw[ho]at go;simp at go;omega
    |cons v q=>rw[ho]at go;simp only[e5l]at go;rw[←go];rfl
   unfold b9o;rw[rL];generalize(a1p c.outs al).map u8R=T at kC iD;cases T with
   |nil=>simp at kC;omega
   |cons a r=>
    have fK:r.length+1=c.outs.length:=by simpa using kC
    have fa:=a0c iD;have iJ:=λπ=>a08 π iD;have qi:=λ(m:Nat) (q:AV→Option AV)=>a13 m q iD;simp only[List.flatMap_cons]at fa;simp only[e4r,List.cons.injEq]at iJ
    (repeat first|simp only[ww]|(apply xa;simp+decide only[go_sem,c1,hs,a0k,a0l];rfl;kernel_rfl))
    refine a5m kp63_2 (λn F H=>∃i,n=(kinds c.nodes 14).length-i∧i≤(kinds c.nodes 14).length∧F=[(1,.ptr 1 0 0),(2,.ptr 2 0 0),(3,.ptr 3 0 0),(29,sl r1 ((kinds c.nodes 14).map a0s)),(30,.int .i64 (kinds c.nodes 14).length),(31,.int .i64 i)]∧H=[some (.row 1 NR),some (.row 5 [[sl c.nc (c.nodes.map Nd.enc),sl c.mc (c.names.map a3a),.nilslice,sl c.oc (c.outs.map a0s),.slice 0 0 c.nodes.length (some c.nodes.length)]]),some (.row 2 [[.nilslice,.nilslice]]),some (.row 2 [[.slice 4 0 (r.length+1) none,grV 5 (((a1r c.nodes al).take i).map u8R)]]),some (.row 1 (a::r))]++grH 1 (((a1r c.nodes al).take i).map u8R)) (kinds c.nodes 14).length ?_ ?_
    ·refine⟨_,_,?_,0,rfl,e5q _,rfl,rfl⟩;rw[e71]
     (simp+decide only[go_sem,a03,a00,a17,a18,e5j,n1,n2,fa,iJ]<;>rfl)<;>rfl
    ·rintro n F H ⟨i,rfl,hi,rfl,rfl⟩
     have sC:(a1r c.nodes al).length=(kinds c.nodes 14).length:=by simp[a1r]
     have iC:(((a1r c.nodes al).take i).map u8R).length=i:=by simp;omega
     have fL:=a42 ((a1r c.nodes al).take i);by_cases ak:i<(kinds c.nodes 14).length
     ·obtain⟨q,hq⟩:∃q,(kinds c.nodes 14)[i]?=some q:=⟨_,z9e ak⟩
      obtain⟨nC,qL⟩:=b2i hq;obtain⟨x,hx⟩:∃x,c.nodes[q]?=some x:=⟨_,z9e nC⟩
      have dH:x.kind=14:=by rw[←a1v hx];exact qL
      have fN:x.ins.length=1:=by have h1:=hc.lo x (e12 hx);have h2:=hc.hi x (e12 hx);rw[dH]at h1 h2;have e1:a1s 14=1:=rfl;have e2:a21 14=1:=rfl;omega
      obtain⟨m,hm⟩:∃m,x.ins[0]?=some m:=⟨_,z9e (by omega)⟩
      have fP:=hc.ins x (e12 hx) m (e12 hm);obtain⟨v,lq⟩:∃v,al[m]?=some v:=⟨_,z9e (by omega)⟩
      have mN:((a1r c.nodes al).take (i+1)).map u8R=((a1r c.nodes al).take i).map u8R++[[.int .u8 (a3r v)]]:=by
       have:(a1r c.nodes al)[i]?=some (a3r v):=by unfold a1r;rw[e5n,hq];simp only[e5p,a59 hx,List.getD,hm,lq,e7v]
       rw[a1a this,e6r];rfl
      have c1:(i:Int)<(kinds c.nodes 14).length:=by omega
      have bt:=wI1 (n:=i) (by omega);have fV:decide ((x.ins.length:Int)=1)=true:=e7o (by omega);have mi:Ax.rowAt (x.ins.map a0s) 0=some [AV.int .i64 m]:=by have:=c62 (x.ins.map a0s) 0;rw[Int.natCast_zero]at this;rw[this,e5n,hm];rfl
      have bU:=λ(d:Bool) (H:a02) (hb:a01 H 0=some (.row 1 NR))=>cF d H m v lq hb;have ny:=λ(d:Bool) (H:a02)=>a5w (d:=d) H v;generalize a3r v=w at mN ny;generalize((a1r c.nodes al).take i).map u8R=X at iC fL mN;have ql:=a0c fL;have qk:=λπ=>a08 π fL;cases X with
      |nil=>
       have bU:=λ(d:Bool) (x1 x2 x3 x4:Option AObj)=>bU d [some (.row 1 NR),x1,x2,x3,x4] rfl
       (repeat first|simp only[ww]|(apply xa;simp+decide only[go_sem,c1,ak,hq,nC,hx,fV,mi,hm,bt,bU,ny,a17,a18];rfl;kernel_rfl))
       refine a2e ((kinds c.nodes 14).length-(i+1)) (by omega) ⟨_,_,?_,i+1,rfl,ak,rfl,rfl⟩;rw[mN]
       (simp+decide only[go_sem,a03,a00,a0k,a0l,e5m,e5r,n1,n2,fa,iJ]<;>rfl)<;>rfl
      |cons a2 r2=>
       simp only[e5l]at iC;have aN:r2.length+1+1≤1000000000:=by omega
       simp only[List.flatMap_cons]at ql;simp only[e4r,List.cons.injEq]at qk;have bU:=λ(d:Bool) (x1 x2 x3 x4 x5:Option AObj)=>bU d [some (.row 1 NR),x1,x2,x3,x4,x5] rfl
       (repeat first|simp only[ww]|(apply xa;simp+decide only[go_sem,c1,ak,hq,nC,hx,fV,mi,hm,bt,bU,ny,a0k,a0l,aN];rfl;kernel_rfl))
       refine a2e ((kinds c.nodes 14).length-(i+1)) (by omega) ⟨_,_,?_,i+1,rfl,ak,rfl,rfl⟩;rw[mN]
       (simp+decide only[go_sem,a03,a00,a0k,a0l,e7p,ql,qk,n1,n2,fa,iJ]<;>rfl)<;>rfl
     ·obtain rfl:i=(kinds c.nodes 14).length:=by omega
      have c1:¬((kinds c.nodes 14).length:Int)<(kinds c.nodes 14).length:=by omega
      have jV:=λ(d:Bool) (x0 x1 x2 x3:Option AObj) (R:a02)=>b5a (d:=d) (H:=x0::x1::x2::x3::some (.row 1 (a::r))::R) (b:=4) (n:=r.length+1) iD rfl;rw[e5o (by omega)]at iC fL⊢;cases hX:a1r c.nodes al with
      |nil=>
       have jf:=λ(d:Bool) (H:a02)=>c0r (d:=d) H
       (repeat first|simp only[ww]|(apply xa;simp+decide only[go_sem,c1,jV,jf,e5j,a17,a18];rfl;kernel_rfl))
       refine a81 (vs:=[.agg [.slice 4 0 (r.length+1) (some (r.length+1)),.nilslice]]) (r:=(_,_)) (by simp+decide only[go_sem]) ?_ rfl;show a1q false 1 (.agg [.slice 4 0 (r.length+1) (some (r.length+1)),.nilslice]) _=_;have du:List.take (r.length+1) (a::r)=a::r:=e82 (l:=a::r);rw[←fK];unfold a3m;simp+decide only[go_sem,qi,n2,du]<;>rfl
      |cons a2 r2=>
       rw[hX]at iC fL;have lT:=λ(d:Bool) (x0 x1 x2 x3 x4:Option AObj)=>b5a (d:=d) (H:=[x0,x1,x2,x3,x4,some (.row 1 ((a2::r2).map u8R))]) (b:=5) (n:=r2.length+1) fL rfl;have qj:=λ(m:Nat) (q:AV→Option AV)=>a13 m q fL;have da:(r2.map u8R).length=r2.length:=c10 ..;simp only[e4r,u8R]at lT qj fL⊢
       (repeat first|simp only[ww]|(apply xa;simp+decide only[go_sem,c1,jV,lT,a0k,a0l,da];rfl;kernel_rfl))
       refine a81 (vs:=[.agg [.slice 4 0 (r.length+1) (some (r.length+1)),.slice 5 0 (r2.length+1) (some (r2.length+1))]]) (r:=(_,_)) (by simp+decide only[go_sem]) ?_ rfl;show a1q false 1 (.agg [.slice 4 0 (r.length+1) (some (r.length+1)),.slice 5 0 (r2.length+1) (some (r2.length+1))]) _=_;have du:List.take (r.length+1) (a::r)=a::r:=e82 (l:=a::r);have nr:List.take (r2.length+1) ([AV.int .u8 a2]::r2.map u8R)=[AV.int .u8 a2]::r2.map u8R:=e5o (by simp);rw[←fK];unfold a3m;simp only[e4r,u8R];simp+decide only[go_sem,qi,qj,n2,du,nr]<;>rfl
theorem c31{d:Bool}{H:a02}{b:Nat}(c:Cir)(hc:c.wf)(p:Pat)(hp:PatOk c.nodes p)(N0:List Nat)(hN:N0.length=c.nodes.length)(hb:a01 H b=some (.row 1 (N0.map u8R))) :
 a09 L.env d (sem L.env Mf) (.func (.func 60) [] []) [.agg [sl c.nc (c.nodes.map Nd.enc),sl c.mc (c.names.map a3a),.nilslice,sl c.oc (c.outs.map a0s),.slice b 0 c.nodes.length (some c.nodes.length)],.agg [sl p.ic (p.ins.map u8R),sl p.sc (p.sts.map u8R)]] H=some (.tuple [],H.set b (some (.row 1 ((a2f (a2f N0 (kinds c.nodes 0) p.ins) (kinds c.nodes 14) p.sts).map u8R))),[b]):=
 a43 (fs:=[]) (cs:=[]) (ar:=[.agg [sl c.nc (c.nodes.map Nd.enc),sl c.mc (c.names.map a3a),.nilslice,sl c.oc (c.outs.map a0s),.slice b 0 c.nodes.length (some c.nodes.length)],.agg [sl p.ic (p.ins.map u8R),sl p.sc (p.sts.map u8R)]]) (by kernel_rfl) (by kernel_rfl) rfl hb (a0j (a42 N0)) (FlatO.row (a42 N0)) (by simp only[e5m,e4t,go_sem]) (aq:=[.agg [sl c.nc (c.nodes.map Nd.enc),sl c.mc (c.names.map a3a),.nilslice,sl c.oc (c.outs.map a0s),.slice 0 0 c.nodes.length (some c.nodes.length)],.agg [sl p.ic (p.ins.map u8R),sl p.sc (p.sts.map u8R)]]) (by simp only[e5m,e4t,e4r,e5j,b9q,a1u,b7r,a73]) (d0d c hc p hp N0 hN) (FlatO.row (a42 _)) rfl
theorem c5t{d:Bool}{H:a02}{b:Nat}(c:Cir)(hc:c.wf)(hO:c.outs≠[])(al:List Nat)(hl:al.length=c.nodes.length)(hv:∀v∈al,v≤3)(hb:a01 H b=some (.row 1 (al.map u8R))) :
 a09 L.env d (sem L.env Mf) (.func (.func 63) [] []) [.agg [sl c.nc (c.nodes.map Nd.enc),sl c.mc (c.names.map a3a),.nilslice,sl c.oc (c.outs.map a0s),.slice b 0 c.nodes.length (some c.nodes.length)]] H=some (b9o (a1p c.outs al) (a1r c.nodes al),H,[b]):=
 a2h (fs:=[]) (cs:=[]) (ar:=[.agg [sl c.nc (c.nodes.map Nd.enc),sl c.mc (c.names.map a3a),.nilslice,sl c.oc (c.outs.map a0s),.slice b 0 c.nodes.length (some c.nodes.length)]]) (by kernel_rfl) (by kernel_rfl) rfl hb (a0j (a42 al)) (FlatO.row (a42 al)) (by simp only[e5m,e4t,go_sem]) (aq:=[.agg [sl c.nc (c.nodes.map Nd.enc),sl c.mc (c.names.map a3a),.nilslice,sl c.oc (c.outs.map a0s),.slice 0 0 c.nodes.length (some c.nodes.length)]]) (by simp only[e5m,e4t,e4r,e5j,b9q,a1u,b7r,a73]) (d5a c hc hO al hl hv) (b1u _ _)
theorem c76{d:Bool}{H:a02}{b:Nat}(k:Nat)(hk:k<16)(l:List Nat)(hl:l.length<1000000)(cp:Option Nat)(X:List (List AV))(hX:FlatR X)(iC:X.take l.length=l.map u8R)(hb:a01 H b=some (.row 1 X)){m:Nat}(hm:m=l.length) :
 a09 L.env d (sem L.env Mf) (.func (.func 62) [] []) [.int .u8 k,.slice b 0 m cp] H=some (.int .u8 (a6f k l:Nat),H,[b]):=by
 subst hm;have hs:X=l.map u8R++X.drop l.length:=by rw[←iC,f00]
 have hr:=d1b k hk l (.slice 0 0 l.length cp) [some (.row 1 (l.map u8R++X.drop l.length))] (.blk cp _ (by rw[←hs];exact hX)) hl;rw[←hs]at hr;exact a2h (fs:=[]) (cs:=[]) (ar:=[.int .u8 k,.slice b 0 l.length cp]) (by kernel_rfl) (by kernel_rfl) rfl hb (a0j hX) (FlatO.row hX) (by simp only[e5m,e4t,go_sem]) (aq:=[.int .u8 k,.slice 0 0 l.length cp]) (by simp only[e5m,e4t,e4r,e5j,a1u,c64]) hr rfl
theorem c34{d:Bool}(H:a02)(c:Cir)(h:c.wf)(p:Pat)(hp:PatOk c.nodes p):a09 L.env d (sem L.env Mf) (.func (.func 59) [] []) [.agg c.enc,.agg p.enc] H=some (.int .i64 0,H,[]):=a04 (by kernel_rfl) (by kernel_rfl) rfl (by simp only[a06,a0z,Cir.enc,Pat.enc,go_sem]) (d6w c h p hp) rfl
theorem a52(l:List Nat):(a3m l).storable=true:=by cases l<;>rfl
def d22(c:Cir)(ord:List Nat)(p:Pat):List Nat:=c6q nAlg c.nodes hk0 ord (kinds c.nodes 0) (kinds c.nodes 14) p.ins p.sts
theorem e9j{X:List (List AV)}{j n:Nat}{x:List AV}(hl:X.length=n)(hj:j<n):(X.take j++[x]++X.drop (j+1)).length=n∧(X.take j++[x]++X.drop (j+1)).take (j+1)=X.take j++[x]:=by refine⟨by simp;omega,?_⟩;rw[List.take_append_of_le_length (by simp;omega),e5o (by simp;omega)]
theorem c7n{X:List (List AV)}{j:Nat}{x:List AV}(hX:FlatR X)(hx:a0a x=[]):FlatR (X.take j++[x]++X.drop (j+1)):=by
 intro r hr;simp only[e7h,e6z]at hr;rcases hr with (hr|rfl)|hr
 ·exact hX r (List.mem_of_mem_take hr)
 ·exact hx
 ·exact hX r (List.mem_of_mem_drop hr)
theorem b6c:∀(is vs N:List Nat),(∀v∈N,v≤3)→(∀v∈vs,v≤3)→∀v∈a2f N is vs,v≤3
 | [],vs,N,h,_=>by cases vs<;>exact h
 |_::_,[],N,h,_=>h
 |i::is,w::vs,N,h,hv=>by
  simp only[a2f];refine b6c is vs _ (λv hm=>?_) (λv hm=>hv v (f02 _ hm));rcases e9f hm with h1|h1
  ·exact h v h1
  ·rw[h1];exact hv w (List.mem_cons_self ..)
theorem d5n{nodes:List Nd}{N:List Nat}{n:Nat}(h:∀v∈N,v≤3):∀v∈a5u nAlg nodes hk0 N n,v≤3:=by
 have key:∀(l:List Nat) (p:Nat),∀v∈a56 nAlg hk0 n N p l,v≤3:=by
  intro l
  induction l with
  |nil=>intro p v hv;simp[a56]at hv
  |cons m l ih=>
   intro p v hv;simp only[a56,e6v]at hv;rcases hv with rfl|hv
   ·show N.getD m 0≤3;rw[List.getD];cases hm:N[m]? with
    |none=>decide
    |some w=>exact h w (e12 hm)
   ·exact ih _ v hv
 exact key _ _
theorem d59(c:Cir)(hc:c.wf)(hO:c.outs≠[])(p:Pat)(hp:PatOk c.nodes p)(ord:List Nat)(aS:OrdOf c ord):sem L.env Mf 23 [.agg c.enc,.agg p.enc] []=some (.tuple [b9o (a1p c.outs (d22 c ord p)) (a1r c.nodes (d22 c ord p)),.islice ((d22 c ord p).map u8R) (some c.nodes.length),.int .i64 0],[]):=by
 have cY:=hc.len;have aN:c.nodes.length≤1000000000:=by omega
 have ho:=aS.call;have bI:∀n∈ord,n<c.nodes.length:=λn hn=>by have:=aS.perm.mem_iff.1 hn;simpa using this
 have bQ:ord.length=c.nodes.length:=by rw[aS.perm.length_eq];simp
 have jd:=λ(d:Bool) H=>c34 (d:=d) H c hc p hp;have jg:c.enc=[sl c.nc (c.nodes.map Nd.enc),sl c.mc (c.names.map a3a),.nilslice,sl c.oc (c.outs.map a0s)]:=rfl;have dv:Pat.enc p=[sl p.ic (p.ins.map u8R),sl p.sc (p.sts.map u8R)]:=rfl;rw[jg,dv]at jd;rw[jg]at ho;rw[jg,dv];have nR:=λ(d:Bool) (x0 x1 x2 x4:Option AObj)=>c31 (d:=d) (H:=[x0,x1,x2,some (.row 1 ((List.replicate c.nodes.length 0).map u8R)),x4]) (b:=3) c hc p hp (List.replicate c.nodes.length 0) (by simp) rfl;have er:=λ(d:Bool) (x0 x1 x3:Option AObj) (N:List Nat) (hl:N.length=c.nodes.length) (hv:∀v∈N,v≤3)=>c5t (d:=d) (H:=[x0,x1,some (.row 1 (N.map u8R)),x3]) (b:=2) c hc hO N hl hv rfl;have me:(a2f (a2f (List.replicate c.nodes.length 0) (kinds c.nodes 0) p.ins) (kinds c.nodes 14) p.sts).length=c.nodes.length:=by rw[a79,a79];simp
 have md:∀v∈a2f (a2f (List.replicate c.nodes.length 0) (kinds c.nodes 0) p.ins) (kinds c.nodes 14) p.sts,v≤3:=b6c _ _ _ (b6c _ _ _ (λv hv=>by rw[e7q hv];omega) hp.inv) hp.stv;have hG:d22 c ord p=ord.foldl (Pc.stepG nAlg c.nodes hk0) (a2f (a2f (List.replicate c.nodes.length 0) (kinds c.nodes 0) p.ins) (kinds c.nodes 14) p.sts):=rfl;rw[hG];have qJ:(List.replicate c.nodes.length 0).map u8R=List.replicate c.nodes.length [AV.int .u8 0]:=by rw[List.map_replicate];rfl
 rw[qJ]at nR;generalize a2f (a2f (List.replicate c.nodes.length 0) (kinds c.nodes 0) p.ins) (kinds c.nodes 14) p.sts=N1 at nR me md⊢
 suffices hs:∃r:AV×a02,(r=(.tuple [b9o (a1p c.outs (ord.foldl (Pc.stepG nAlg c.nodes hk0) N1)) (a1r c.nodes (ord.foldl (Pc.stepG nAlg c.nodes hk0) N1)),.islice ((ord.foldl (Pc.stepG nAlg c.nodes hk0) N1).map u8R) (some c.nodes.length),.int .i64 0],[]))∧sem L.env Mf 23 [.agg [sl c.nc (c.nodes.map Nd.enc),sl c.mc (c.names.map a3a),.nilslice,sl c.oc (c.outs.map a0s)],.agg [sl p.ic (p.ins.map u8R),sl p.sc (p.sts.map u8R)]] []=some r by obtain⟨r,rfl,h3⟩:=hs;exact h3
 (refine svE Tryz.f23 ?_;simp only[Tryz.f23,gS])
 (repeat first|simp only[ww]|(apply xa;simp+decide only[go_sem,ho,jd,aN,nR];rfl;kernel_rfl))
 refine a5m kp23_0 (λn F H=>∃(i q:Nat) (X:List (List AV)),n=ord.length-i∧i≤ord.length∧q≤16∧X.length=16∧FlatR X∧(∀v∈(ord.take i).foldl (Pc.stepG nAlg c.nodes hk0) N1,v≤3)∧F=[(4,.ptr 0 0 0),(9,.ptr 1 0 0),(10,.slice 3 0 q (some 16)),(40,.islice (ord.map a0s) (some c.nodes.length)),(41,.int .i64 ord.length),(42,.int .i64 i)]∧H=[some (.row 2 [[.nilslice,.nilslice]]),some (.row 5 [[sl c.nc (c.nodes.map Nd.enc),sl c.mc (c.names.map a3a),.nilslice,sl c.oc (c.outs.map a0s),.slice 2 0 c.nodes.length (some c.nodes.length)]]),some (.row 1 (((ord.take i).foldl (Pc.stepG nAlg c.nodes hk0) N1).map u8R)),some (.row 1 X)]) ord.length ?_ ?_
 ·refine⟨_,_,?_,0,0,List.replicate 16 [.int .u8 0],rfl,e5q _,by omega,rfl,λr hr=>by rw[e7q hr];rfl,by rw[e71];exact md,rfl,rfl⟩;rw[e71,List.foldl_nil]
  (simp+decide only[go_sem,a03,a00,a72,a6b]<;>rfl)<;>rfl
 ·rintro n F H ⟨i,q,X,rfl,hi,hq,iC,fL,j8,rfl,rfl⟩
  have cq:=d26 (A:=nAlg) (nodes:=c.nodes) (h:=hk0) (ord.take i) N1;rw[me]at cq;have x1:=a0c fL;have x2:=λπ=>a08 π fL;by_cases ak:i<ord.length
  ·obtain⟨n,hn⟩:∃n,ord[i]?=some n:=⟨_,z9e ak⟩
   have eX:=bI n (e12 hn);obtain⟨x,hx⟩:∃x,c.nodes[n]?=some x:=⟨_,z9e eX⟩
   have fA:=e12 hx;have k14:=hc.kind x fA;have cZ:=hc.insl fA;have nU:=a1v hx;have hs:=c84 (A:=nAlg) (nodes:=c.nodes) (h:=hk0) (al:=N1) hn;have c1:(i:Int)<ord.length:=by omega
   have bt:=wI1 (n:=i) (by omega);have b6:=λ(d:Bool) H=>b34 (d:=d) H x.kind (by omega);have sa:x.enc=[.int .u8 x.kind,sl x.c (x.ins.map a0s),.int .i64 x.mem,.int .i64 x.bit]:=rfl;generalize(ord.take i).foldl (Pc.stepG nAlg c.nodes hk0) N1=N at hs cq j8;obtain⟨w0,bZ⟩:∃w,N[n]?=some w:=⟨_,z9e (by omega)⟩
   by_cases b5:a1g x.kind=true
   ·have az:a0y c.nodes n≠0∧a0y c.nodes n≠14:=by
     rw[nU];constructor<;>(intro e;rw[e]at b5;exact absurd b5 (by decide))
    have lG:x.kind<16:=by omega
    have pY:a35 c.nodes n=x.ins:=a59 hx;have mQ:(a5u nAlg c.nodes hk0 N n).length=x.ins.length:=by rw[c3f,pY]
    have pX:=d5n (nodes:=c.nodes) (n:=n) j8
    (repeat first|simp only[ww]|(apply xa;simp+decide only[go_sem,c1,ak,hn,hx,eX,b6,b5];rfl;kernel_rfl))
    refine a5m kp23_2 (λm F H=>∃(j:Nat) (Y:List (List AV)),m=x.ins.length-j∧j≤x.ins.length∧Y.length=16∧FlatR Y∧Y.take j=((a5u nAlg c.nodes hk0 N n).take j).map u8R∧F=[(4,.ptr 0 0 0),(9,.ptr 1 0 0),(10,.slice 3 0 j (some 16)),(12,.int .i64 n),(13,.ptr 4 0 0),(40,.islice (ord.map a0s) (some c.nodes.length)),(41,.int .i64 ord.length),(42,.int .i64 i),(59,sl x.c (x.ins.map a0s)),(60,.int .i64 x.ins.length),(61,.int .i64 j)]∧H=[some (.row 2 [[.nilslice,.nilslice]]),some (.row 5 [[sl c.nc (c.nodes.map Nd.enc),sl c.mc (c.names.map a3a),.nilslice,sl c.oc (c.outs.map a0s),.slice 2 0 c.nodes.length (some c.nodes.length)]]),some (.row 1 (N.map u8R)),some (.row 1 Y),some (.row 4 [[.int .u8 x.kind,sl x.c (x.ins.map a0s),.int .i64 x.mem,.int .i64 x.bit]])]) x.ins.length ?_ ?_
    ·refine⟨_,_,?_,0,X,rfl,e5q _,iC,fL,rfl,rfl,rfl⟩
     (simp+decide only[go_sem,a03,a00,a72,a6b,x1,x2]<;>rfl)<;>rfl
    ·rintro m F H ⟨j,Y,rfl,hj,oF,l7,pS,rfl,rfl⟩
     have y1:=a0c l7;have y2:=λπ=>a08 π l7;by_cases bg:j<x.ins.length
     ·obtain⟨u,hu⟩:∃u,x.ins[j]?=some u:=⟨_,z9e bg⟩
      have mA:=hc.ins x fA u (e12 hu);obtain⟨v,hv⟩:∃v,N[u]?=some v:=⟨_,z9e (by omega)⟩
      have d1:(j:Int)<x.ins.length:=by omega
      have kQ:=wI1 (n:=j) (by omega);have eR:=c3d (A:=nAlg) (h:=hk0) (nodes:=c.nodes) (al:=N) (n:=n) (i:=j) (by rw[pY];exact hu) hv;obtain⟨z1,z2⟩:=e9j (x:=[AV.int .u8 v]) oF (show j<16 by omega);have z3:=c7n (j:=j) (x:=[AV.int .u8 v]) l7 rfl;generalize hZ:Y.take j++[[AV.int .u8 v]]++Y.drop (j+1)=Z at z1 z2 z3;rw[pS]at z2;have w1:=a0c z3;have w2:=λπ=>a08 π z3;have nZ:j≤16:=by omega
      have nY:j+1≤16:=by omega
      (repeat first|simp only[ww]|(apply xa;simp+decide only[go_sem,d1,bg,hu,mA,hv,cq,kQ,oF,nZ,nY,hZ,e7l];rfl;kernel_rfl))
      refine a2e (x.ins.length-(j+1)) (by omega) ⟨_,_,?_,j+1,Z,rfl,bg,z1,z3,?_,rfl,rfl⟩
      ·(simp+decide only[go_sem,a03,a00,a72,a6b,w1,w2,hZ]<;>rfl)<;>rfl
      ·rw[z2,eR,e6r];rfl
     ·obtain rfl:j=x.ins.length:=by omega
      have d1:¬(x.ins.length:Int)<x.ins.length:=by omega
      have oe:=λ(d:Bool) (x0 x1 x2 x4:Option AObj)=>c76 (d:=d) (H:=[x0,x1,x2,some (.row 1 Y),x4]) (b:=3) x.kind lG (a5u nAlg c.nodes hk0 N n) (by omega) (some 16) Y l7 (by rw[mQ,pS,e5o (by omega)]) rfl (m:=x.ins.length) mQ.symm;have cj:Pc.stepG nAlg c.nodes hk0 N n=N.set n (a6f x.kind (a5u nAlg c.nodes hk0 N n)):=by unfold Pc.stepG;rw[e6q az,nU];show N.set n (a6f x.kind ((a5u nAlg c.nodes hk0 N n).map a37))=_;rw[c6v pX]
      have bf:=c1p x.kind _ pX;rw[cj]at hs;generalize a6f x.kind (a5u nAlg c.nodes hk0 N n)=w at oe hs bf;have kY:(N.map u8R).set n [AV.int .u8 w]=(N.set n w).map u8R:=by rw[f09];rfl
      (repeat first|simp only[ww]|(apply xa;simp+decide only[go_sem,d1,oe,eX,cq,bZ,kY,bt];rfl;kernel_rfl))
      refine a2e (ord.length-(i+1)) (by omega) ⟨_,_,?_,i+1,x.ins.length,Y,rfl,ak,by omega,oF,l7,?_,rfl,rfl⟩
      ·rw[hs]
       (simp+decide only[go_sem,a03,a00,a72,a6b,y1,y2]<;>rfl)<;>rfl
      ·rw[hs];intro v hv;rcases e9f hv with h1|h1
       ·exact j8 v h1
       ·rw[h1];exact bf
   ·have b5:a1g x.kind=false:=by simpa using b5
    have cj:Pc.stepG nAlg c.nodes hk0 N n=N:=by
     have az:¬(a0y c.nodes n≠0∧a0y c.nodes n≠14):=by rw[nU];intro hh;simp[a1g]at b5;omega
     unfold Pc.stepG;rw[e5s az];show N.set n (N.getD n 0)=N;rw[List.getD,bZ,e7v];have:=(e5k.1 bZ)
     rw[←this.2];exact List.set_getElem_self this.1
    rw[cj]at hs
    (repeat first|simp only[ww]|(apply xa;simp+decide only[go_sem,c1,ak,hn,hx,eX,b6,b5,bt];rfl;kernel_rfl))
    refine a2e (ord.length-(i+1)) (by omega) ⟨_,_,?_,i+1,q,X,rfl,ak,hq,iC,fL,by rw[hs];exact j8,rfl,rfl⟩;rw[hs]
    (simp+decide only[go_sem,a03,a00,a72,a6b,x1,x2]<;>rfl)<;>rfl
  ·obtain rfl:i=ord.length:=by omega
   have c1:¬(ord.length:Int)<ord.length:=by omega
   rw[e82]at cq j8⊢;generalize ord.foldl (Pc.stepG nAlg c.nodes hk0) N1=N at cq j8⊢;have er:=λ(d:Bool) (x0 x1 x3:Option AObj)=>er d x0 x1 x3 N cq j8;unfold b9o at er⊢;have q1:=a2j (a1p c.outs N);have eQ:=a52 (a1p c.outs N);have kX:=a52 (a1r c.nodes N);have q2:=a2j (a1r c.nodes N);generalize a3m (a1p c.outs N)=V1 at er q1 eQ⊢;generalize a3m (a1r c.nodes N)=V2 at er q2 kX⊢;have s1:V1.storable=true:=eQ;have s2:V2.storable=true:=kX;have j9:=a42 N;have r1:∀π,ren π V1=V1:=λπ=>a1d π _ q1;have r2:∀π,ren π V2=V2:=λπ=>a1d π _ q2;have f1:=λm t d=>a1c m t d V1 q1;have f2:=λm t d=>a1c m t d V2 q2;have f3:=λm d=>a13 m d j9;have du:(N.map u8R).take c.nodes.length=N.map u8R:=e5o (by simp;omega)
   (repeat first|simp only[ww]|(apply xa;simp+decide only[go_sem,c1,er,s1,s2];rfl;kernel_rfl))
   refine a81 (vs:=[.agg [V1,V2],.slice 2 0 c.nodes.length (some c.nodes.length),.int .i64 0]) (r:=(_,_)) (by simp+decide only[go_sem]) ?_ rfl;show a1q false 0 (.tuple [.agg [V1,V2],.slice 2 0 c.nodes.length (some c.nodes.length),.int .i64 0]) _=_;simp+decide only[go_sem,f1,f2,f3,du,cq]<;>rfl
end Go.UInst
