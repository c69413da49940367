/- Part of a proof. No condition. -/
import Derived.Test.YtmiegcjnimlbmaaGreatDoorUNe
import Derived.Test.YtmiegcjnimlbmaaGreatDoorPcB
import Derived.Test.YtmiegcjnimlbmaaGreatDoorAxD
import Derived.Test.YtmiegcjnimlbmaaGreatDoorUPa
set_option linter.unusedSimpArgs false
set_option linter.unusedVariables false
namespace Go.UInst
open Go.Proofs Go.Ax Go.Pc
set_option maxRecDepth 100000
inductive RA(l:List Nat):AV→a03→Prop
 |imm (r:Rep):RA l (sl r (l.map u8R)) []
 |blk (c:Option Nat) (ah:List (List AV)) (hf:FlatR (l.map u8R++ah)):RA l (.slice 0 0 l.length c) [some (.row 1 (l.map u8R++ah))]
theorem a2d(l:List Nat):FlatR (l.map u8R):=FlatR.map λ_=>rfl
theorem b91{l:List Nat}{V:AV}{H:a03}(h:RA l V H):b88 L.env (a02 H) 52 V=some (.int .i64 l.length):=by
 cases h with
 |imm r=>simp+decide only[go_sem]
 |blk c ah hf=>simp+decide only[go_sem]
theorem b92{l:List Nat}{V:AV}{H:a03}(h:RA l V H){i v:Nat}(hi:l[i]?=some v):∃p,a0v L.env (a02 H) 52 V (.int .i64 i)=some p∧a60 L.env (a02 H) 53 p=some (.int .u8 v):=by
 have aj:=(e7k.1 hi).1;cases h with
 |imm r=>exact⟨_,by simp+decide only[go_sem,hi,aj]<;>rfl,by simp+decide only[go_sem,hi,aj]⟩
 |blk c ah hf=>
  have hg:(l.map u8R++ah)[i]?=some [.int .u8 v]:=by rw[e8f (by simpa using aj),e8a,hi];rfl
  have gx:i<(l.map u8R++ah).length:=by simp;omega
  exact⟨_,by simp+decide only[go_sem,hg,aj,gx]<;>rfl,by simp+decide only[go_sem,hg,aj,gx]⟩
theorem a1k{l:List Nat}{V v:AV}{H:a03}(h:RA l V H)(hv:refs v=[]):a1l false H.length v H=some (v,H):=by
 cases h with
 |imm r=>exact a9a hv
 |blk c ah hf=>have h1:=λπ=>a05 π hf;have hr:∀π,ren π v=v:=λπ=>a0w π v hv;simp+decide only[go_sem,a1l,a1h _ _ _ _ hv,h1]
theorem d7s{l:List Nat}{V:AV}{H:a03}(h:RA l V H)(b:Nat):a0y (a02 H b)=[]:=by
 cases h with
 |imm r=>rfl
 |blk c ah hf=>
  cases b with
  |zero=>exact a0k hf
  |succ b=>rfl
theorem d5z{l:List Nat}{V:AV}{H:a03}(h:RA l V H):(∀b∈refs V,b<H.length)∧(refs V).length≤1:=by
 cases h with
 |imm r=>rw[a1b];exact⟨λb hb=>by simp at hb,by simp⟩
 |blk c ah hf=>exact⟨λb hb=>by simp[refs]at hb;subst hb;simp,by simp[refs]⟩
theorem b76{l:List Nat}{V:AV}{H:a03}(h:RA l V H){keep:List Nat}{F F':Frm}(hk:a1o keep F=F')(hF:a0d (F'.map (·.2))=refs V∨a0d (F'.map (·.2))=[]):gcD H.length keep F H=some (F',H):=by
 obtain⟨h1,h2⟩:=d5z h;refine e3h hk ?_ ?_ (d7s h)
 ·rcases hF with e|e<;>rw[e]
  ·exact h1
  ·intro b hb;simp at hb
 ·rcases hF with e|e<;>rw[e]
  ·omega
  ·simp
theorem a5p{l:List Nat}{V:AV}{H:a03}(h:RA l V H){d:Bool}{g:FuncId}{pre post:List AV}{v:AV}(hx:L.env.ext g=false)(hf:(L.env.fn g).isSome=true)(hp:a0d pre=[])(hq:a0d post=[])(hv:refs v=[])
 (hr:∀V H,RA l V H→sem L.env Mf g (pre++V::post) H=some (v,H)):a0a L.env d (sem L.env Mf) (.func (.func g) [] []) (pre++V::post) H=some (v,H,refs V):=by
 have hr:=hr V H h;cases h with
 |imm r=>rw[a1b];exact a04 hx hf rfl (by simp only[e7l,e7i,b18,a06,a1b,hp,hq]) (by simpa using hr) hv
 |blk c ah bY=>refine a2v (b:=0) (fs:=[]) (cs:=[]) (args:=pre ++ .slice 0 0 l.length c::post) hx hf (by simp) rfl (a0k bY) (FlatO.row bY) (by simp only[b18,a06,hp,hq,c51,e7l,e7i]) (au:=pre ++ .slice 0 0 l.length c::post) ?_ hr hv;rw[e8l,e12,a1p];have e:∀l:List AV,a0d l=[]→l.map (ren (a8o [0]))=l:=λl hl=>a2t _ hl;rw[e _ hp,e _ hq]
/-! ### scalars -/
theorem c90(v:Nat):sem L.env Mf 148 [.int .u8 v] []=some (.bool (decide (v≤1)),[]):=by
 have e:decide ((v:Int)≤1)=decide (v≤1):=by rw[decide_eq_decide];omega
 (refine sv Tryz.f148 ?_;simp only[Tryz.f148,gS])
 (repeat first|simp only[ww]|(apply xa;simp+decide only[go_sem,e];rfl;kernel_rfl))
 (apply fqb;simp+decide only[go_sem]<;>rfl)
theorem b3b{d:Bool}(H:a03)(v:Nat):a0a L.env d (sem L.env Mf) (.func (.func 148) [] []) [.int .u8 v] H=some (.bool (decide (v≤1)),H,[]):=a04 (by kernel_rfl) (by kernel_rfl) rfl rfl (c90 v) rfl
theorem d39(v:Nat):sem L.env Mf 107 [.int .u8 v] []=some (.int .u8 (a56 v:Nat),[]):=by
 have e:d6o (.int .u8 v) [.int .u8 2]=some (.int .u8 ((a56 v:Nat):Int)):=by
  simp only[d6o,a56];by_cases h:(2:Int)<v
  ·rw[e8j h];congr 2;omega
  ·rw[e8g h];congr 2;omega
 generalize a56 v=w at e
 (refine sv Tryz.f107 ?_;simp only[Tryz.f107,gS])
 (repeat first|simp only[ww]|(apply xa;simp+decide only[go_sem,e];rfl;kernel_rfl))
 (apply fqb;simp+decide only[go_sem]<;>rfl)
theorem a6j{d:Bool}(H:a03)(v:Nat):a0a L.env d (sem L.env Mf) (.func (.func 107) [] []) [.int .u8 v] H=some (.int .u8 (a56 v:Nat),H,[]):=a04 (by kernel_rfl) (by kernel_rfl) rfl rfl (d39 v) rfl
theorem d8g(v:Nat):sem L.env Mf 108 [.int .u8 v] []=some (.int .u8 (b1y v:Nat),[]):=by
 have hk:=λH=>b3b (d:=false) H v;by_cases h:v≤1
 ·have hw:IntKind.u8.wrap (1-(v:Int))=((1-v:Nat):Int):=by rw[IntWalk.u8_in _ ⟨by omega,by omega⟩];omega
  rw[show b1y v=1-v by simp[b1y,h]]
  (refine sv Tryz.f108 ?_;simp only[Tryz.f108,gS])
  (repeat first|simp only[ww]|(apply xa;simp+decide only[go_sem,hk,h,hw];rfl;kernel_rfl))
  (apply fqb;simp+decide only[go_sem]<;>rfl)
 ·rw[show b1y v=2 by simp[b1y,h]]
  (refine sv Tryz.f108 ?_;simp only[Tryz.f108,gS])
  (repeat first|simp only[ww]|(apply xa;simp+decide only[go_sem,hk,h];rfl;kernel_rfl))
  (apply fqb;simp+decide only[go_sem]<;>rfl)
theorem c8y{d:Bool}(H:a03)(v:Nat):a0a L.env d (sem L.env Mf) (.func (.func 108) [] []) [.int .u8 v] H=some (.int .u8 (b1y v:Nat),H,[]):=a04 (by kernel_rfl) (by kernel_rfl) rfl rfl (d8g v) rfl
theorem d8h(s a b:Nat):sem L.env Mf 112 [.int .u8 s,.int .u8 a,.int .u8 b] []=some (.int .u8 (b99 s a b:Nat),[]):=by
 have ha:=λH=>a6j (d:=false) H a;have hb:=λH=>a6j (d:=false) H b;by_cases h0:s=0
 ·have c0:(s:Int)=0:=by omega
  rw[show b99 s a b=a56 a by simp[b99,h0]]
  (refine sv Tryz.f112 ?_;simp only[Tryz.f112,gS])
  (repeat first|simp only[ww]|(apply xa;simp+decide only[go_sem,ha,c0];rfl;kernel_rfl))
  (apply fqb;simp+decide only[go_sem]<;>rfl)
 have c0:¬(s:Int)=0:=by omega
 by_cases h1:s=1
 ·have c1:(s:Int)=1:=by omega
  rw[show b99 s a b=a56 b by simp[b99,h1]]
  (refine sv Tryz.f112 ?_;simp only[Tryz.f112,gS])
  (repeat first|simp only[ww]|(apply xa;simp+decide only[go_sem,hb,c1];rfl;kernel_rfl))
  (apply fqb;simp+decide only[go_sem]<;>rfl)
 have c1:¬(s:Int)=1:=by omega
 by_cases h2:a=b
 ·have c2:(a:Int)=b:=by omega
  rw[show b99 s a b=a56 a by simp[b99,h0,h1,h2]]
  (refine sv Tryz.f112 ?_;simp only[Tryz.f112,gS])
  (repeat first|simp only[ww]|(apply xa;simp+decide only[go_sem,ha,c0,c1,c2];rfl;kernel_rfl))
  subst h2
  (repeat first|simp only[ww]|(apply xa;simp+decide only[go_sem,ha];rfl;kernel_rfl))
  (apply fqb;simp+decide only[go_sem]<;>rfl)
 ·have c2:¬(a:Int)=b:=by omega
  rw[show b99 s a b=2 by simp[b99,h0,h1,h2]]
  (refine sv Tryz.f112 ?_;simp only[Tryz.f112,gS])
  (repeat first|simp only[ww]|(apply xa;simp+decide only[go_sem,c0,c1,c2];rfl;kernel_rfl))
  (apply fqb;simp+decide only[go_sem]<;>rfl)
theorem c8z{d:Bool}(H:a03)(s a b:Nat):a0a L.env d (sem L.env Mf) (.func (.func 112) [] []) [.int .u8 s,.int .u8 a,.int .u8 b] H=some (.int .u8 (b99 s a b:Nat),H,[]):=a04 (by kernel_rfl) (by kernel_rfl) rfl rfl (d8h s a b) rfl
theorem d8f(e v:Nat):sem L.env Mf 113 [.int .u8 e,.int .u8 v] []=some (.int .u8 (c1k e v:Nat),[]):=by
 have ha:=λH=>a6j (d:=false) H v;by_cases h0:e=0
 ·have c0:(e:Int)=0:=by omega
  rw[show c1k e v=3 by simp[c1k,h0]]
  (refine sv Tryz.f113 ?_;simp only[Tryz.f113,gS])
  (repeat first|simp only[ww]|(apply xa;simp+decide only[go_sem,c0];rfl;kernel_rfl))
  (apply fqb;simp+decide only[go_sem]<;>rfl)
 have c0:¬(e:Int)=0:=by omega
 by_cases h1:e=1
 ·have c1:(e:Int)=1:=by omega
  rw[show c1k e v=a56 v by simp[c1k,h1]]
  (refine sv Tryz.f113 ?_;simp only[Tryz.f113,gS])
  (repeat first|simp only[ww]|(apply xa;simp+decide only[go_sem,ha,c1];rfl;kernel_rfl))
  (apply fqb;simp+decide only[go_sem]<;>rfl)
 have c1:¬(e:Int)=1:=by omega
 rw[show c1k e v=2 by simp[c1k,h0,h1]]
 (refine sv Tryz.f113 ?_;simp only[Tryz.f113,gS])
 (repeat first|simp only[ww]|(apply xa;simp+decide only[go_sem,c0,c1];rfl;kernel_rfl))
 (apply fqb;simp+decide only[go_sem]<;>rfl)
theorem c8u{d:Bool}(H:a03)(e v:Nat):a0a L.env d (sem L.env Mf) (.func (.func 113) [] []) [.int .u8 e,.int .u8 v] H=some (.int .u8 (c1k e v:Nat),H,[]):=a04 (by kernel_rfl) (by kernel_rfl) rfl rfl (d8f e v) rfl
/-! ### lists -/
theorem c61(l:List Nat)(V:AV)(H:a03)(hV:RA l V H)(hl:l.length<1000000)(low bH:Nat):sem L.env Mf 149 [V,.int .u8 low,.int .u8 bH] H=some (.int .u8 (a6b low bH bH l:Nat),H):=by
 have al:=b91 hV;have cL:=d5z hV
 suffices hs:∃r:AV×a03,(r=(.int .u8 (a6b low bH bH l:Nat),H))∧sem L.env Mf 149 [V,.int .u8 low,.int .u8 bH] H=some r by obtain⟨r,rfl,h3⟩:=hs;exact h3
 (refine svE Tryz.f149 ?_;simp only[Tryz.f149,gS])
 (repeat first|simp only[ww]|(apply xa;simp+decide only[go_sem,al];rfl;kernel_rfl))
 refine a3j kp149_0 (λn F H1=>∃(i out:Nat),n=l.length-i∧i≤l.length∧F=[(1,.int .u8 low),(2,.int .u8 bH),(7,.int .u8 out),(11,V),(12,.int .i64 l.length),(13,.int .i64 i)]∧H1=H∧a6b low bH out (l.drop i)=a6b low bH bH l) l.length ?_ ?_
 ·exact⟨_,_,b76 hV (by simp+decide only[go_sem]<;>rfl) (.inl (by simp+decide only[go_sem])),0,bH,rfl,e8e _,rfl,rfl,rfl⟩
 ·rintro n F H1 ⟨i,out,rfl,hi,rfl,rfl,aR⟩
  by_cases aj:i<l.length
  ·obtain⟨v,hv⟩:∃v,l[i]?=some v:=⟨_,z9e aj⟩
   obtain⟨p,fi,dO⟩:=b92 hV hv;have hd:l.drop i=v::l.drop (i+1):=by rw[←List.getElem_cons_drop aj,(e7k.1 hv).2]
   rw[hd]at aR;have c1:(i:Int)<l.length:=by omega
   have hw:=wI1 (n:=i) (by omega);by_cases h1:v=low
   ·have c2:(v:Int)=low:=by omega
    simp only[a6b,h1,f1a]at aR
    (repeat first|simp only[ww]|(apply xa;simp+decide only[go_sem,c1,fi,dO,c2];rfl;kernel_rfl))
    refine a21 (vs:=[.int .u8 low]) (r:=(_,_)) (by simp+decide only[go_sem]) (a1k hV rfl) ?_;rw[←aR];rfl
   ·have c2:¬(v:Int)=low:=by omega
    by_cases h2:v=bH
    ·subst h2;simp only[a6b,e8g h1,f1a]at aR
     (repeat first|simp only[ww]|(apply xa;simp+decide only[go_sem,c1,fi,dO,c2,hw];rfl;kernel_rfl))
     refine a0x (l.length-(i+1)) (by omega) ⟨_,_,b76 hV (by simp+decide only[go_sem]<;>rfl) (.inl (by simp+decide only[go_sem])),i+1,out,rfl,aj,rfl,rfl,aR⟩
    ·have c3:¬(v:Int)=bH:=by omega
     simp only[a6b,e8g h1,e8g h2]at aR
     (repeat first|simp only[ww]|(apply xa;simp+decide only[go_sem,c1,fi,dO,c2,c3,hw];rfl;kernel_rfl))
     refine a0x (l.length-(i+1)) (by omega) ⟨_,_,b76 hV (by simp+decide only[go_sem]<;>rfl) (.inl (by simp+decide only[go_sem])),i+1,2,rfl,aj,rfl,rfl,aR⟩
  ·obtain rfl:i=l.length:=by omega
   have c1:¬(l.length:Int)<l.length:=by omega
   rw[List.drop_length]at aR;simp only[a6b]at aR
   (repeat first|simp only[ww]|(apply xa;simp+decide only[go_sem,c1];rfl;kernel_rfl))
   refine b7p (vs:=[.int .u8 out]) (r:=(_,_)) (by simp+decide only[go_sem]) (a1k hV rfl) ?_;rw[←aR];rfl
theorem b1g{l:List Nat}{V:AV}{H:a03}(hV:RA l V H)(hl:l.length<1000000){d:Bool}(low bH:Nat){a b:Int}(ha:a=low)(hb:b=bH):a0a L.env d (sem L.env Mf) (.func (.func 149) [] []) [V,.int .u8 a,.int .u8 b] H=some (.int .u8 (a6b low bH bH l:Nat),H,refs V):=by subst ha;subst hb;exact a5p hV (pre:=[]) (post:=[.int .u8 low,.int .u8 bH]) (by kernel_rfl) (by kernel_rfl) rfl rfl rfl (λV H hV=>c61 l V H hV hl low bH)
theorem d8l(l:List Nat)(V:AV)(H:a03)(hV:RA l V H)(hl:l.length<1000000):sem L.env Mf 109 [V] H=some (.int .u8 (a6b 0 1 1 l:Nat),H):=by
 have hc:=b1g hV hl (d:=false) 0 1 (a:=0) (b:=1) rfl rfl;generalize a6b 0 1 1 l=w at hc
 (refine sv Tryz.f109 ?_;simp only[Tryz.f109,gS])
 (repeat first|simp only[ww]|(apply xa;simp+decide only[go_sem,hc];rfl;kernel_rfl))
 refine a6s (vs:=[.int .u8 w]) (by simp+decide only[go_sem]) (a1k hV rfl)
theorem c97{l:List Nat}{V:AV}{H:a03}(hV:RA l V H)(hl:l.length<1000000){d:Bool}:a0a L.env d (sem L.env Mf) (.func (.func 109) [] []) [V] H=some (.int .u8 (a6b 0 1 1 l:Nat),H,refs V):=a5p hV (pre:=[]) (post:=[]) (by kernel_rfl) (by kernel_rfl) rfl rfl rfl (λV H hV=>d8l l V H hV hl)
theorem e31(l:List Nat)(V:AV)(H:a03)(hV:RA l V H)(hl:l.length<1000000):sem L.env Mf 110 [V] H=some (.int .u8 (a6b 1 0 0 l:Nat),H):=by
 have hc:=b1g hV hl (d:=false) 1 0 (a:=1) (b:=0) rfl rfl;generalize a6b 1 0 0 l=w at hc
 (refine sv Tryz.f110 ?_;simp only[Tryz.f110,gS])
 (repeat first|simp only[ww]|(apply xa;simp+decide only[go_sem,hc];rfl;kernel_rfl))
 refine a6s (vs:=[.int .u8 w]) (by simp+decide only[go_sem]) (a1k hV rfl)
theorem d3a{l:List Nat}{V:AV}{H:a03}(hV:RA l V H)(hl:l.length<1000000){d:Bool}:a0a L.env d (sem L.env Mf) (.func (.func 110) [] []) [V] H=some (.int .u8 (a6b 1 0 0 l:Nat),H,refs V):=a5p hV (pre:=[]) (post:=[]) (by kernel_rfl) (by kernel_rfl) rfl rfl rfl (λV H hV=>e31 l V H hV hl)
theorem e6r{a b:Nat}(ha:a≤1)(hb:b≤1):e7x .u8 (a:Int) (b:Int)=((a^^^b:Nat):Int)∧a^^^b≤1:=by
 have ha:a=0∨a=1:=by omega
 have hb:b=0∨b=1:=by omega
 rcases ha with rfl|rfl<;>rcases hb with rfl|rfl<;>exact⟨by decide,by decide⟩
theorem d8e(l:List Nat)(V:AV)(H:a03)(hV:RA l V H)(hl:l.length<1000000):sem L.env Mf 111 [V] H=some (.int .u8 (b51 0 l:Nat),H):=by
 have al:=b91 hV
 suffices hs:∃r:AV×a03,(r=(.int .u8 (b51 0 l:Nat),H))∧sem L.env Mf 111 [V] H=some r by obtain⟨r,rfl,h3⟩:=hs;exact h3
 (refine svE Tryz.f111 ?_;simp only[Tryz.f111,gS])
 (repeat first|simp only[ww]|(apply xa;simp+decide only[go_sem,al];rfl;kernel_rfl))
 refine a3j kp111_0 (λn F H1=>∃(i out:Nat),n=l.length-i∧i≤l.length∧out≤1∧F=[(3,.int .u8 out),(6,V),(7,.int .i64 l.length),(8,.int .i64 i)]∧H1=H∧b51 out (l.drop i)=b51 0 l) l.length ?_ ?_
 ·exact⟨_,_,b76 hV (by simp+decide only[go_sem]<;>rfl) (.inl (by simp+decide only[go_sem])),0,0,rfl,e8e _,by omega,rfl,rfl,rfl⟩
 ·rintro n F H1 ⟨i,out,rfl,hi,ho,rfl,rfl,aR⟩
  by_cases aj:i<l.length
  ·obtain⟨v,hv⟩:∃v,l[i]?=some v:=⟨_,z9e aj⟩
   obtain⟨p,fi,dO⟩:=b92 hV hv;have hd:l.drop i=v::l.drop (i+1):=by rw[←List.getElem_cons_drop aj,(e7k.1 hv).2]
   rw[hd]at aR;have c1:(i:Int)<l.length:=by omega
   have hw:=wI1 (n:=i) (by omega);have hk:=λH=>b3b (d:=false) H v;by_cases h1:v≤1
   ·obtain⟨hx,fY⟩:=e6r ho h1;simp only[b51,e8j h1]at aR
    (repeat first|simp only[ww]|(apply xa;simp+decide only[go_sem,c1,fi,dO,hk,h1,hx,hw];rfl;kernel_rfl))
    refine a0x (l.length-(i+1)) (by omega) ⟨_,_,b76 hV (by simp+decide only[go_sem]<;>rfl) (.inl (by simp+decide only[go_sem])),i+1,out^^^v,rfl,aj,fY,rfl,rfl,aR⟩
   ·simp only[b51,e8g h1]at aR
    (repeat first|simp only[ww]|(apply xa;simp+decide only[go_sem,c1,fi,dO,hk,h1];rfl;kernel_rfl))
    refine a21 (vs:=[.int .u8 2]) (r:=(_,_)) (by simp+decide only[go_sem]) (a1k hV rfl) ?_;rw[←aR];rfl
  ·obtain rfl:i=l.length:=by omega
   have c1:¬(l.length:Int)<l.length:=by omega
   rw[List.drop_length]at aR;simp only[b51]at aR
   (repeat first|simp only[ww]|(apply xa;simp+decide only[go_sem,c1];rfl;kernel_rfl))
   refine b7p (vs:=[.int .u8 out]) (r:=(_,_)) (by simp+decide only[go_sem]) (a1k hV rfl) ?_;rw[←aR];rfl
theorem c8t{l:List Nat}{V:AV}{H:a03}(hV:RA l V H)(hl:l.length<1000000){d:Bool}:a0a L.env d (sem L.env Mf) (.func (.func 111) [] []) [V] H=some (.int .u8 (b51 0 l:Nat),H,refs V):=a5p hV (pre:=[]) (post:=[]) (by kernel_rfl) (by kernel_rfl) rfl rfl rfl (λV H hV=>d8e l V H hV hl)
set_option maxHeartbeats 200000000
def b4t(p:Nat→Bool)(l:List Nat):Int:=match l.findIdx? p with
 |some i=>i
 |none=>-1
theorem c3k{p:Nat→Bool}{l:List Nat}{i v:Nat}(hv:l[i]?=some v)(hp:p v=true)(hb:∀(j w:Nat),j<i→l[j]?=some w→p w=false):b4t p l=i:=by
 have aj:=(e7k.1 hv).1;have:l.findIdx? p=some i:=by rw[List.findIdx?_eq_some_iff_getElem];refine⟨aj,by rw[(e7k.1 hv).2];exact hp,λj hj=>?_⟩;have:=hb j _ hj (z9e (by omega));simp[this]
 unfold b4t;rw[this]
theorem b9q{p:Nat→Bool}{l:List Nat}(hb:∀(j w:Nat),j<l.length→l[j]?=some w→p w=false):b4t p l = -1:=by
 have:l.findIdx? p=none:=by rw[List.findIdx?_eq_none_iff];intro x hx;obtain⟨j,hj⟩:=f1k.1 hx;exact hb j x (e7k.1 hj).1 hj
 unfold b4t;rw[this]
theorem c9r(p:Nat→Bool)(l:List Nat):decide (0≤b4t p l)=l.any p:=by
 unfold b4t;cases h:l.findIdx? p with
 |none=>
  have:=List.findIdx?_eq_none_iff.1 h;have e:l.any p=false:=by rw[List.any_eq_false];intro x hx;simp[this x hx]
  rw[e];rfl
 |some i=>obtain⟨hi,hp,_⟩:=List.findIdx?_eq_some_iff_getElem.1 h;have e:l.any p=true:=List.any_eq_true.2 ⟨_,List.getElem_mem hi,hp⟩;rw[e];simp
theorem d3c(l:List Nat)(V:AV)(H:a03)(hV:RA l V H)(hl:l.length<1000000)(f:AV)(p:Nat→Bool)(i5:refs f=[])(hf:∀(d:Bool) (H:a03) (v:Nat),a0a L.env d (sem L.env Mf) f [.int .u8 v] H=some (.bool (p v),H,[])) :
 sem L.env Mf 139 [V,f] H=some (.int .i64 (b4t p l),H):=by
 have al:=b91 hV
 suffices hs:∃r:AV×a03,(r=(.int .i64 (b4t p l),H))∧sem L.env Mf 139 [V,f] H=some r by obtain⟨r,rfl,h3⟩:=hs;exact h3
 (refine svE Tryz.f139 ?_;simp only[Tryz.f139,gS])
 (repeat first|simp only[ww]|(apply xa;simp+decide only[go_sem,al];rfl;kernel_rfl))
 refine a3j kp139_0 (λn F H1=>∃(i:Nat),n=l.length-i∧i≤l.length∧F=[(0,V),(1,f),(7,.int .i64 l.length),(8,.int .i64 i)]∧H1=H∧∀(j w:Nat),j<i→l[j]?=some w→p w=false) l.length ?_ ?_
 ·exact⟨_,_,b76 hV (by simp+decide only[go_sem]<;>rfl) (.inl (by simp+decide only[go_sem,i5])),0,rfl,e8e _,rfl,rfl,λj w hj=>by omega⟩
 ·rintro n F H1 ⟨i,rfl,hi,rfl,rfl,hb⟩
  by_cases aj:i<l.length
  ·obtain⟨v,hv⟩:∃v,l[i]?=some v:=⟨_,z9e aj⟩
   obtain⟨q,fi,dO⟩:=b92 hV hv;have c1:(i:Int)<l.length:=by omega
   have hw:=wI1 (n:=i) (by omega);have hc:=λd H=>hf d H v;cases hpv:p v with
   |true=>
    rw[hpv]at hc
    (repeat first|simp only[ww]|(apply xa;simp+decide only[go_sem,c1,fi,dO,hc];rfl;kernel_rfl))
    refine a21 (vs:=[.int .i64 i]) (r:=(_,_)) (by simp+decide only[go_sem]) (a1k hV rfl) ?_;rw[c3k hv hpv hb];rfl
   |false=>
    rw[hpv]at hc
    (repeat first|simp only[ww]|(apply xa;simp+decide only[go_sem,c1,fi,dO,hc,hw];rfl;kernel_rfl))
    refine a0x (l.length-(i+1)) (by omega) ⟨_,_,b76 hV (by simp+decide only[go_sem]<;>rfl) (.inl (by simp+decide only[go_sem,i5])),i+1,rfl,aj,rfl,rfl,λj w hj qc=>?_⟩;by_cases gT:j=i
    ·subst gT;rw[hv]at qc;cases qc;exact hpv
    ·exact hb j w (by omega) qc
  ·obtain rfl:i=l.length:=by omega
   have c1:¬(l.length:Int)<l.length:=by omega
   (repeat first|simp only[ww]|(apply xa;simp+decide only[go_sem,c1];rfl;kernel_rfl))
   refine a21 (vs:=[.int .i64 (-1)]) (r:=(_,_)) (by simp+decide only[go_sem]) (a1k hV rfl) ?_;rw[b9q hb];rfl
theorem b5y{l:List Nat}{V:AV}{H:a03}(hV:RA l V H)(hl:l.length<1000000){d:Bool}(f:AV)(p:Nat→Bool)(i5:refs f=[])(hf:∀(d:Bool) (H:a03) (v:Nat),a0a L.env d (sem L.env Mf) f [.int .u8 v] H=some (.bool (p v),H,[])) :
 a0a L.env d (sem L.env Mf) (.func (.func 139) [] []) [V,f] H=some (.int .i64 (b4t p l),H,refs V):=
 a5p hV (pre:=[]) (post:=[f]) (by kernel_rfl) (by kernel_rfl) rfl (by simp only[a06,a0z,i5,e7i]) rfl (λV H hV=>d3c l V H hV hl f p i5 hf)
theorem c94(l:List Nat)(V:AV)(H:a03)(hV:RA l V H)(hl:l.length<1000000)(f:AV)(p:Nat→Bool)(i5:refs f=[])(hf:∀(d:Bool) (H:a03) (v:Nat),a0a L.env d (sem L.env Mf) f [.int .u8 v] H=some (.bool (p v),H,[])) :
 sem L.env Mf 92 [V,f] H=some (.bool (l.any p),H):=by
 have hc:=λd=>b5y hV hl (d:=d) f p i5 hf;have he:=c9r p l;generalize b4t p l=x at hc he;rw[←he]
 (refine sv Tryz.f92 ?_;simp only[Tryz.f92,gS])
 (repeat first|simp only[ww]|(apply xa;simp+decide only[go_sem,hc];rfl;kernel_rfl))
 refine a6s (vs:=[.bool _]) (by simp+decide only[go_sem]<;>rfl) (a1k hV rfl)
theorem c1s{l:List Nat}{V:AV}{H:a03}(hV:RA l V H)(hl:l.length<1000000){d:Bool}(f:AV)(p:Nat→Bool)(i5:refs f=[])(hf:∀(d:Bool) (H:a03) (v:Nat),a0a L.env d (sem L.env Mf) f [.int .u8 v] H=some (.bool (p v),H,[])) :
 a0a L.env d (sem L.env Mf) (.func (.func 92) [] []) [V,f] H=some (.bool (l.any p),H,refs V):=
 a5p hV (pre:=[]) (post:=[f]) (by kernel_rfl) (by kernel_rfl) rfl (by simp only[a06,a0z,i5,e7i]) rfl (λV H hV=>c94 l V H hV hl f p i5 hf)
theorem d8j(l:List Nat)(V:AV)(H:a03)(hV:RA l V H)(hl:l.length<1000000)(w:Nat):sem L.env Mf 223 [V,.int .u8 w] H=some (.int .i64 (b4t (λv=>decide (w=v)) l),H):=by
 have al:=b91 hV
 suffices hs:∃r:AV×a03,(r=(.int .i64 (b4t (λv=>decide (w=v)) l),H))∧sem L.env Mf 223 [V,.int .u8 w] H=some r by obtain⟨r,rfl,h3⟩:=hs;exact h3
 (refine svE Tryz.f223 ?_;simp only[Tryz.f223,gS])
 (repeat first|simp only[ww]|(apply xa;simp+decide only[go_sem,al];rfl;kernel_rfl))
 refine a3j kp223_0 (λn F H1=>∃(i:Nat),n=l.length-i∧i≤l.length∧F=[(0,V),(1,.int .u8 w),(7,.int .i64 l.length),(8,.int .i64 i)]∧H1=H∧∀(j v:Nat),j<i→l[j]?=some v→decide (w=v)=false) l.length ?_ ?_
 ·exact⟨_,_,b76 hV (by simp+decide only[go_sem]<;>rfl) (.inl (by simp+decide only[go_sem])),0,rfl,e8e _,rfl,rfl,λj w hj=>by omega⟩
 ·rintro n F H1 ⟨i,rfl,hi,rfl,rfl,hb⟩
  by_cases aj:i<l.length
  ·obtain⟨v,hv⟩:∃v,l[i]?=some v:=⟨_,z9e aj⟩
   obtain⟨q,fi,dO⟩:=b92 hV hv;have c1:(i:Int)<l.length:=by omega
   have hw:=wI1 (n:=i) (by omega);by_cases rj:w=v
   ·subst rj
    (repeat first|simp only[ww]|(apply xa;simp+decide only[go_sem,c1,fi,dO];rfl;kernel_rfl))
    refine a21 (vs:=[.int .i64 i]) (r:=(_,_)) (by simp+decide only[go_sem]) (a1k hV rfl) ?_;rw[c3k hv (by simp) hb];rfl
   ·have c2:¬(w:Int)=v:=by omega
    (repeat first|simp only[ww]|(apply xa;simp+decide only[go_sem,c1,fi,dO,c2,hw];rfl;kernel_rfl))
    refine a0x (l.length-(i+1)) (by omega) ⟨_,_,b76 hV (by simp+decide only[go_sem]<;>rfl) (.inl (by simp+decide only[go_sem])),i+1,rfl,aj,rfl,rfl,λj u hj qd=>?_⟩;by_cases gT:j=i
    ·subst gT;rw[hv]at qd;cases qd;simpa using rj
    ·exact hb j u (by omega) qd
  ·obtain rfl:i=l.length:=by omega
   have c1:¬(l.length:Int)<l.length:=by omega
   (repeat first|simp only[ww]|(apply xa;simp+decide only[go_sem,c1];rfl;kernel_rfl))
   refine a21 (vs:=[.int .i64 (-1)]) (r:=(_,_)) (by simp+decide only[go_sem]) (a1k hV rfl) ?_;rw[b9q hb];rfl
theorem c91{l:List Nat}{V:AV}{H:a03}(hV:RA l V H)(hl:l.length<1000000){d:Bool}(w:Nat):a0a L.env d (sem L.env Mf) (.func (.func 223) [] []) [V,.int .u8 w] H=some (.int .i64 (b4t (λv=>decide (w=v)) l),H,refs V):=a5p hV (pre:=[]) (post:=[.int .u8 w]) (by kernel_rfl) (by kernel_rfl) rfl rfl rfl (λV H hV=>d8j l V H hV hl w)
theorem d3d(l:List Nat)(V:AV)(H:a03)(hV:RA l V H)(hl:l.length<1000000)(w:Nat):sem L.env Mf 195 [V,.int .u8 w] H=some (.bool (decide (w∈l)),H):=by
 have hc:=λd=>c91 hV hl (d:=d) w;have he:=c9r (λv=>decide (w=v)) l;have hm:(l.any λv=>decide (w=v))=decide (w∈l):=by rw[f4a,List.any_eq_true,e9j];exact⟨λ⟨x,hx,h⟩=>by rw[of_decide_eq_true h];exact hx,λh=>⟨w,h,by simp⟩⟩
 rw[hm]at he;generalize b4t (λv=>decide (w=v)) l=x at hc he;rw[←he]
 (refine sv Tryz.f195 ?_;simp only[Tryz.f195,gS])
 (repeat first|simp only[ww]|(apply xa;simp+decide only[go_sem,hc];rfl;kernel_rfl))
 refine a6s (vs:=[.bool _]) (by simp+decide only[go_sem]<;>rfl) (a1k hV rfl)
theorem b5z{l:List Nat}{V:AV}{H:a03}(hV:RA l V H)(hl:l.length<1000000){d:Bool}(w:Nat){a:Int}(ha:a=w):a0a L.env d (sem L.env Mf) (.func (.func 195) [] []) [V,.int .u8 a] H=some (.bool (decide (w∈l)),H,refs V):=by subst ha;exact a5p hV (pre:=[]) (post:=[.int .u8 w]) (by kernel_rfl) (by kernel_rfl) rfl rfl rfl (λV H hV=>d3d l V H hV hl w)
theorem d3e(l:List Nat)(V:AV)(H:a03)(hV:RA l V H)(hl:l.length<1000000):sem L.env Mf 153 [V] H=some (.bool (decide (0∈l)&&decide (1∈l)),H):=by
 have h0:=λd=>b5z hV hl (d:=d) 0 (a:=0) rfl;have h1:=λd=>b5z hV hl (d:=d) 1 (a:=1) rfl;generalize decide (1∈l)=y at h1;cases hx:decide (0∈l)with
 |true=>
  rw[hx]at h0
  (refine sv Tryz.f153 ?_;simp only[Tryz.f153,gS])
  (repeat first|simp only[ww]|(apply xa;simp+decide only[go_sem,h0,h1];rfl;kernel_rfl))
  refine a6s (vs:=[.bool y]) (by simp+decide only[go_sem]) (a1k hV rfl)
 |false=>
  rw[hx]at h0
  (refine sv Tryz.f153 ?_;simp only[Tryz.f153,gS])
  (repeat first|simp only[ww]|(apply xa;simp+decide only[go_sem,h0,h1];rfl;kernel_rfl))
  refine a6s (vs:=[.bool false]) (by simp+decide only[go_sem]) (a1k hV rfl)
theorem c5j{l:List Nat}{V:AV}{H:a03}(hV:RA l V H)(hl:l.length<1000000){d:Bool}:a0a L.env d (sem L.env Mf) (.func (.func 153) [] []) [V] H=some (.bool (decide (0∈l)&&decide (1∈l)),H,refs V):=a5p hV (pre:=[]) (post:=[]) (by kernel_rfl) (by kernel_rfl) rfl rfl rfl (λV H hV=>d3e l V H hV hl)
theorem c04(v:Nat):sem L.env Mf 151 [.int .u8 v] []=some (.int .u8 (a4f v:Nat),[]):=by
 by_cases h:3<v
 ·have c:(3:Int)<v:=by omega
  rw[show a4f v=2 by simp[a4f,h]]
  (refine sv Tryz.f151 ?_;simp only[Tryz.f151,gS])
  (repeat first|simp only[ww]|(apply xa;simp+decide only[go_sem,c];rfl;kernel_rfl))
  (apply fqb;simp+decide only[go_sem]<;>rfl)
 ·have c:¬(3:Int)<v:=by omega
  rw[show a4f v=v by simp[a4f,h]]
  (refine sv Tryz.f151 ?_;simp only[Tryz.f151,gS])
  (repeat first|simp only[ww]|(apply xa;simp+decide only[go_sem,c];rfl;kernel_rfl))
  (apply fqb;simp+decide only[go_sem]<;>rfl)
theorem d3g(v:Nat):sem L.env Mf 150 [.int .u8 v] []=some (.bool (decide (a4f v=2)),[]):=by
 have hc:∀(d:Bool) H,a0a L.env d (sem L.env Mf) (.func (.func 151) [] []) [.int .u8 v] H=some (.int .u8 (a4f v:Nat),H,[]):=λd H=>a04 (by kernel_rfl) (by kernel_rfl) rfl rfl (c04 v) rfl;have e:decide (((a4f v:Nat):Int)=2)=decide (a4f v=2):=by rw[decide_eq_decide];omega
 generalize a4f v=w at hc e
 (refine sv Tryz.f150 ?_;simp only[Tryz.f150,gS])
 (repeat first|simp only[ww]|(apply xa;simp+decide only[go_sem,hc,e];rfl;kernel_rfl))
 (apply fqb;simp+decide only[go_sem]<;>rfl)
theorem d3f(v:Nat):sem L.env Mf 152 [.int .u8 v] []=some (.bool (decide (v≠3)),[]):=by
 have e:(!decide ((v:Int)=3))=decide (v≠3):=by
  by_cases h:v=3
  ·subst h;rfl
  ·have:¬(v:Int)=3:=by omega
   simp[h,this]
 (refine sv Tryz.f152 ?_;simp only[Tryz.f152,gS])
 (repeat first|simp only[ww]|(apply xa;simp+decide only[go_sem,e];rfl;kernel_rfl))
 (apply fqb;simp+decide only[go_sem]<;>rfl)
theorem d8k(l:List Nat)(V:AV)(H:a03)(hV:RA l V H)(hl:l.length<1000000):sem L.env Mf 114 [V] H=some (.int .u8 (d66 l:Nat),H):=by
 have h1:∀(d:Bool) (H:a03) (v:Nat),a0a L.env d (sem L.env Mf) (.func (.func 150) [] []) [.int .u8 v] H=some (.bool (decide (a4f v=2)),H,[]):=λd H v=>a04 (by kernel_rfl) (by kernel_rfl) rfl rfl (d3g v) rfl;have h2:∀(d:Bool) (H:a03) (v:Nat),a0a L.env d (sem L.env Mf) (.func (.func 152) [] []) [.int .u8 v] H=some (.bool (decide (v≠3)),H,[]):=λd H v=>a04 (by kernel_rfl) (by kernel_rfl) rfl rfl (d3f v) rfl;have c1:=λd=>b5y hV hl (d:=d) _ (λv=>decide (v≠3)) rfl h2;have c2:=λd=>c1s hV hl (d:=d) _ (λv=>decide (a4f v=2)) rfl h1;have c3:=λd=>c5j hV hl (d:=d);unfold d66;unfold b4t at c1;cases hf:l.findIdx? (λv=>decide (v≠3))with
 |none=>
  rw[hf]at c1;dsimp only at c1⊢
  (refine sv Tryz.f114 ?_;simp only[Tryz.f114,gS])
  (repeat first|simp only[ww]|(apply xa;simp+decide only[go_sem,c1];rfl;kernel_rfl))
  refine a6s (vs:=[.int .u8 3]) (by simp+decide only[go_sem]) (a1k hV rfl)
 |some i=>
  rw[hf]at c1;dsimp only at c1⊢;have hi:=(List.findIdx?_eq_some_iff_getElem.1 hf).1;obtain⟨v,hv⟩:∃v,l[i]?=some v:=⟨_,z9e hi⟩
  obtain⟨q,fi,dO⟩:=b92 hV hv;have hg:l.getD i 0=v:=by rw[List.getD,hv];rfl
  have c0:¬(i:Int)<0:=by omega
  rw[hg];generalize(decide (0∈l)&&decide (1∈l))=x at c3⊢;generalize(l.any λv=>decide (a4f v=2))=y at c2⊢;cases x with
  |true=>
   (refine sv Tryz.f114 ?_;simp only[Tryz.f114,gS])
   (repeat first|simp only[ww]|(apply xa;simp+decide only[go_sem,c1,c2,c3,c0];rfl;kernel_rfl))
   refine a6s (vs:=[.int .u8 2]) (by simp+decide only[go_sem]) (a1k hV rfl)
  |false=>cases y with
   |true=>
    (refine sv Tryz.f114 ?_;simp only[Tryz.f114,gS])
    (repeat first|simp only[ww]|(apply xa;simp+decide only[go_sem,c1,c2,c3,c0];rfl;kernel_rfl))
    refine a6s (vs:=[.int .u8 2]) (by simp+decide only[go_sem]) (a1k hV rfl)
   |false=>
    (refine sv Tryz.f114 ?_;simp only[Tryz.f114,gS])
    (repeat first|simp only[ww]|(apply xa;simp+decide only[go_sem,c1,c2,c3,c0,fi,dO];rfl;kernel_rfl))
    refine a6s (vs:=[.int .u8 v]) (by simp+decide only[go_sem]) (a1k hV rfl)
theorem c96{l:List Nat}{V:AV}{H:a03}(hV:RA l V H)(hl:l.length<1000000){d:Bool}:a0a L.env d (sem L.env Mf) (.func (.func 114) [] []) [V] H=some (.int .u8 (d66 l:Nat),H,refs V):=a5p hV (pre:=[]) (post:=[]) (by kernel_rfl) (by kernel_rfl) rfl rfl rfl (λV H hV=>d8k l V H hV hl)
theorem d5y{l:List Nat}{V:AV}{H:a03}(h:RA l V H):a0h V=[]∨a0h V=[0]:=by
 cases h with
 |imm r=>exact .inl (by simp only[go_sem])
 |blk c ah hf=>exact .inr rfl
theorem d7r{l:List Nat}{V:AV}{H:a03}(h:RA l V H){i v:Nat}(hi:l[i]?=some v):∃p,a0v L.env (a02 H) 52 V (.int .i64 i)=some p∧a60 L.env (a02 H) 53 p=some (.int .u8 v)∧a0h p=a0h V:=by
 have aj:=(e7k.1 hi).1;cases h with
 |imm r=>exact⟨_,by simp+decide only[go_sem,hi,aj]<;>rfl,by simp+decide only[go_sem,hi,aj],by simp+decide only[go_sem]⟩
 |blk c ah hf=>
  have hg:(l.map u8R++ah)[i]?=some [.int .u8 v]:=by rw[e8f (by simpa using aj),e8a,hi];rfl
  have gx:i<(l.map u8R++ah).length:=by simp;omega
  exact⟨_,by simp+decide only[go_sem,hg,aj,gx]<;>rfl,by simp+decide only[go_sem,hg,aj,gx],by simp+decide only[go_sem]⟩
theorem b7f(k:Nat)(hk:k<16)(l:List Nat)(V:AV)(H:a03)(hV:RA l V H)(hl:l.length<1000000):sem L.env Mf 62 [.int .u8 k,V] H=some (.int .u8 (a4m k l:Nat),H):=by
 have hf:=λd H=>b6a (d:=d) H k hk;have al:=b91 hV;by_cases bV:l.length<a22 k
 ·have c1:(l.length:Int)<a22 k:=by omega
  rw[show a4m k l=2 by simp[a4m,bV]]
  (refine sv Tryz.f62 ?_;simp only[Tryz.f62,gS])
  (repeat first|simp only[ww]|(apply xa;simp+decide only[go_sem,hf,c1,al];rfl;kernel_rfl))
  refine a6s (vs:=[.int .u8 2]) (by simp+decide only[go_sem]) (a1k hV rfl)
 have c1:¬(l.length:Int)<a22 k:=by omega
 by_cases mq:a23 k<l.length
 ·have c2:(a23 k:Int)<l.length:=by omega
  rw[show a4m k l=2 by simp[a4m,mq]]
  (refine sv Tryz.f62 ?_;simp only[Tryz.f62,gS])
  (repeat first|simp only[ww]|(apply xa;simp+decide only[go_sem,hf,c1,c2,al];rfl;kernel_rfl))
  refine a6s (vs:=[.int .u8 2]) (by simp+decide only[go_sem]) (a1k hV rfl)
 have c2:¬(a23 k:Int)<l.length:=by omega
 rw[show a4m k l=a48 k l by unfold a4m;rw[e8g (by omega)]];have lo:a22 k≤l.length:=by omega
 clear bV mq;have g:∀(i:Nat) (j:Int),j=i→i<a22 k→∃v p,l.getD i 2=v∧a0v L.env (a02 H) 52 V (.int .i64 j)=some p∧a60 L.env (a02 H) 53 p=some (.int .u8 v)∧a0h p=a0h V:=by
  intro i j hj hi;subst hj;obtain⟨v,hv⟩:∃v,l[i]?=some v:=⟨_,z9e (by omega)⟩
  obtain⟨p,h1,h2,h3⟩:=d7r hV hv;exact⟨v,p,by rw[List.getD,hv];rfl,h1,h2,h3⟩
 have ca:=λ(d:Bool)=>c97 hV hl (d:=d);have co:=λ(d:Bool)=>d3a hV hl (d:=d);have cx:=λ(d:Bool)=>c8t hV hl (d:=d);have cb:=λ(d:Bool)=>c96 hV hl (d:=d);have cn:=λ(d:Bool) (H:a03) (v:Nat)=>c8y (d:=d) H v;have cr:=λ(d:Bool) (H:a03) (v:Nat)=>a6j (d:=d) H v;have cm:=λ(d:Bool) (H:a03) (s a b:Nat)=>c8z (d:=d) H s a b;have ct:=λ(d:Bool) (H:a03) (a b:Nat)=>c8u (d:=d) H a b;have iU:k=0∨k=1∨k=2∨k=3∨k=4∨k=5∨k=6∨k=7∨k=8∨k=9∨k=10∨k=11∨k=12∨k=13∨k=14∨k=15:=by omega
 (refine sv Tryz.f62 ?_;simp only[Tryz.f62,gS])
 (repeat first|simp only[ww]|(apply xa;simp+decide only[go_sem,hf,c1,c2,al];rfl;kernel_rfl))
 rcases iU with rfl|rfl|rfl|rfl|rfl|rfl|rfl|rfl|rfl|rfl|rfl|rfl|rfl|rfl|rfl|rfl
 ·rw[show a48 0 l=2 from rfl]
  (repeat first|simp only[ww]|(apply xa;simp+decide only[go_sem];rfl;kernel_rfl))
  exact a6s (vs:=[.int .u8 _]) (by simp+decide only[go_sem]<;>rfl) (a1k hV rfl)
 ·rw[show a48 1 l=0 from rfl]
  (repeat first|simp only[ww]|(apply xa;simp+decide only[go_sem];rfl;kernel_rfl))
  exact a6s (vs:=[.int .u8 _]) (by simp+decide only[go_sem]<;>rfl) (a1k hV rfl)
 ·rw[show a48 2 l=1 from rfl]
  (repeat first|simp only[ww]|(apply xa;simp+decide only[go_sem];rfl;kernel_rfl))
  exact a6s (vs:=[.int .u8 _]) (by simp+decide only[go_sem]<;>rfl) (a1k hV rfl)
 ·obtain⟨v0,p0,e0,a0,b0,t0⟩:=g 0 0 rfl (by decide);rw[show a48 3 l=a56 (l.getD 0 2)from rfl,e0]
  (repeat first|simp only[ww]|(apply xa;simp+decide only[go_sem,cr,a0,b0];rfl;kernel_rfl))
  exact a6s (vs:=[.int .u8 _]) (by simp+decide only[go_sem]<;>rfl) (a1k hV rfl)
 ·obtain⟨v0,p0,e0,a0,b0,t0⟩:=g 0 0 rfl (by decide);rw[show a48 4 l=b1y (l.getD 0 2)from rfl,e0]
  (repeat first|simp only[ww]|(apply xa;simp+decide only[go_sem,cn,a0,b0];rfl;kernel_rfl))
  exact a6s (vs:=[.int .u8 _]) (by simp+decide only[go_sem]<;>rfl) (a1k hV rfl)
 ·rw[show a48 5 l=a6b 0 1 1 l from rfl]
  (repeat first|simp only[ww]|(apply xa;simp+decide only[go_sem,ca];rfl;kernel_rfl))
  exact a6s (vs:=[.int .u8 _]) (by simp+decide only[go_sem]<;>rfl) (a1k hV rfl)
 ·rw[show a48 6 l=b1y (a6b 0 1 1 l)from rfl]
  (repeat first|simp only[ww]|(apply xa;simp+decide only[go_sem,ca,cn];rfl;kernel_rfl))
  exact a6s (vs:=[.int .u8 _]) (by simp+decide only[go_sem]<;>rfl) (a1k hV rfl)
 ·rw[show a48 7 l=a6b 1 0 0 l from rfl]
  (repeat first|simp only[ww]|(apply xa;simp+decide only[go_sem,co];rfl;kernel_rfl))
  exact a6s (vs:=[.int .u8 _]) (by simp+decide only[go_sem]<;>rfl) (a1k hV rfl)
 ·rw[show a48 8 l=b1y (a6b 1 0 0 l)from rfl]
  (repeat first|simp only[ww]|(apply xa;simp+decide only[go_sem,co,cn];rfl;kernel_rfl))
  exact a6s (vs:=[.int .u8 _]) (by simp+decide only[go_sem]<;>rfl) (a1k hV rfl)
 ·rw[show a48 9 l=b51 0 l from rfl]
  (repeat first|simp only[ww]|(apply xa;simp+decide only[go_sem,cx];rfl;kernel_rfl))
  exact a6s (vs:=[.int .u8 _]) (by simp+decide only[go_sem]<;>rfl) (a1k hV rfl)
 ·rw[show a48 10 l=b1y (b51 0 l)from rfl]
  (repeat first|simp only[ww]|(apply xa;simp+decide only[go_sem,cx,cn];rfl;kernel_rfl))
  exact a6s (vs:=[.int .u8 _]) (by simp+decide only[go_sem]<;>rfl) (a1k hV rfl)
 ·obtain⟨v0,p0,e0,a0,b0,t0⟩:=g 0 0 rfl (by decide);obtain⟨v1,p1,e1,a1,b1,t1⟩:=g 1 1 rfl (by decide);obtain⟨v2,p2,e2,a2,b2,t2⟩:=g 2 2 rfl (by decide);rw[show a48 11 l=b99 (l.getD 0 2) (l.getD 1 2) (l.getD 2 2)from rfl,e0,e1,e2];rcases d5y hV with htp|htp
  ·(repeat first|simp only[ww]|(apply xa;simp+decide only[go_sem,cm,a0,b0,a1,b1,a2,b2,t0,t1,t2,htp];rfl;kernel_rfl))
   exact a6s (vs:=[.int .u8 _]) (by simp+decide only[go_sem]<;>rfl) (a1k hV rfl)
  ·(repeat first|simp only[ww]|(apply xa;simp+decide only[go_sem,cm,a0,b0,a1,b1,a2,b2,t0,t1,t2,htp];rfl;kernel_rfl))
   exact a6s (vs:=[.int .u8 _]) (by simp+decide only[go_sem]<;>rfl) (a1k hV rfl)
 ·obtain⟨v0,p0,e0,a0,b0,t0⟩:=g 0 0 rfl (by decide);obtain⟨v1,p1,e1,a1,b1,t1⟩:=g 1 1 rfl (by decide);rw[show a48 12 l=c1k (l.getD 0 2) (l.getD 1 2)from rfl,e0,e1];rcases d5y hV with htp|htp
  ·(repeat first|simp only[ww]|(apply xa;simp+decide only[go_sem,ct,a0,b0,a1,b1,t0,t1,htp];rfl;kernel_rfl))
   exact a6s (vs:=[.int .u8 _]) (by simp+decide only[go_sem]<;>rfl) (a1k hV rfl)
  ·(repeat first|simp only[ww]|(apply xa;simp+decide only[go_sem,ct,a0,b0,a1,b1,t0,t1,htp];rfl;kernel_rfl))
   exact a6s (vs:=[.int .u8 _]) (by simp+decide only[go_sem]<;>rfl) (a1k hV rfl)
 ·rw[show a48 13 l=d66 l from rfl]
  (repeat first|simp only[ww]|(apply xa;simp+decide only[go_sem,cb];rfl;kernel_rfl))
  exact a6s (vs:=[.int .u8 _]) (by simp+decide only[go_sem]<;>rfl) (a1k hV rfl)
 ·rw[show a48 14 l=2 from rfl]
  (repeat first|simp only[ww]|(apply xa;simp+decide only[go_sem];rfl;kernel_rfl))
  exact a6s (vs:=[.int .u8 _]) (by simp+decide only[go_sem]<;>rfl) (a1k hV rfl)
 ·rw[show a48 15 l=2 from rfl]
  (repeat first|simp only[ww]|(apply xa;simp+decide only[go_sem];rfl;kernel_rfl))
  exact a6s (vs:=[.int .u8 _]) (by simp+decide only[go_sem]<;>rfl) (a1k hV rfl)
theorem c5h{l:List Nat}{V:AV}{H:a03}(hV:RA l V H)(hl:l.length<1000000){d:Bool}(k:Nat)(hk:k<16):a0a L.env d (sem L.env Mf) (.func (.func 62) [] []) [.int .u8 k,V] H=some (.int .u8 (a4m k l:Nat),H,refs V):=a5p hV (pre:=[.int .u8 k]) (post:=[]) (by kernel_rfl) (by kernel_rfl) rfl rfl rfl (λV H hV=>b7f k hk l V H hV hl)
theorem a2s(π:Nat→Option Nat)(l:List Nat):(l.map u8R).map (λr=>r.map (ren π))=l.map u8R:=a05 π (a2d l)
theorem a2k(l:List Nat):(l.map u8R).flatMap a0d=[]:=a08 (a2d l)
theorem d2f(c:Cir)(hc:c.wf)(p:Pat)(hp:PatOk c.nodes p)(N0:List Nat)(hN:N0.length=c.nodes.length) :
 sem L.env Mf 60 [.agg [sl c.nc (c.nodes.map Nd.enc),sl c.mc (c.names.map a1c),.nilslice,sl c.oc (c.outs.map a0f),.slice 0 0 c.nodes.length (some c.nodes.length)],.agg p.enc] [some (.row 1 (N0.map u8R))]=some (.tuple [],[some (.row 1 ((a1s (a1s N0 (kinds c.nodes 0) p.ins) (kinds c.nodes 14) p.sts).map u8R))]):=by
 have dw:=hc.len;obtain⟨r0,e3⟩:=a4d (kinds c.nodes 0);obtain⟨r1,e4⟩:=a4d (kinds c.nodes 14);have hk0:=a3q c.nodes 0;have jQ:=a3q c.nodes 14;have hi:=λ(d:Bool) H=>a3u (d:=d) H c (by omega);have hs:=λ(d:Bool) H=>a5l (d:=d) H c (by omega);have m5:=hp.ins;have eD:=hp.sts;rw[e3]at hi;rw[e4]at hs;have dZ:Pat.enc p=[sl p.ic (p.ins.map u8R),sl p.sc (p.sts.map u8R)]:=rfl;rw[dZ];simp only[Cir.enc]at hi hs
 suffices hs:∃r:AV×a03,(r=(.tuple [],[some (.row 1 ((a1s (a1s N0 (kinds c.nodes 0) p.ins) (kinds c.nodes 14) p.sts).map u8R))]))∧sem L.env Mf 60 [.agg [sl c.nc (c.nodes.map Nd.enc),sl c.mc (c.names.map a1c),.nilslice,sl c.oc (c.outs.map a0f),.slice 0 0 c.nodes.length (some c.nodes.length)],.agg [sl p.ic (p.ins.map u8R),sl p.sc (p.sts.map u8R)]] [some (.row 1 (N0.map u8R))]=some r by obtain⟨r,rfl,h3⟩:=hs;exact h3
 (refine svE Tryz.f60 ?_;simp only[Tryz.f60,gS])
 (repeat first|simp only[ww]|(apply xa;simp+decide only[go_sem,hi];rfl;kernel_rfl))
 refine a0l (σ:=Nat) kp60_0 (λi=>[(2,.ptr 1 0 0),(3,.ptr 2 0 0),(10,sl r0 ((kinds c.nodes 0).map a0f)),(11,.int .i64 (kinds c.nodes 0).length),(12,.int .i64 i)])
  (λi=>[some (.row 1 ((a1s N0 ((kinds c.nodes 0).take i) (p.ins.take i)).map u8R)),some (.row 5 [[sl c.nc (c.nodes.map Nd.enc),sl c.mc (c.names.map a1c),.nilslice,sl c.oc (c.outs.map a0f),.slice 0 0 c.nodes.length (some c.nodes.length)]]),some (.row 2 [[sl p.ic (p.ins.map u8R),sl p.sc (p.sts.map u8R)]])]) (λi=>(kinds c.nodes 0).length-i) (λi=>i≤(kinds c.nodes 0).length) 0 ?_ (e8e _) ?_
 ·rw[e9l,e9l,show a1s N0 [] []=N0 from rfl]
  (simp+decide only[go_sem,a01,a00,a2s,a2k]<;>rfl)<;>rfl
 ·intro i hi;have bj:=a4a ((kinds c.nodes 0).take i) (p.ins.take i) N0;rw[hN]at bj;by_cases aj:i<(kinds c.nodes 0).length
  ·obtain⟨n,hn⟩:∃n,(kinds c.nodes 0)[i]?=some n:=⟨_,z9e aj⟩
   obtain⟨w,hw⟩:∃w,p.ins[i]?=some w:=⟨_,z9e (by omega)⟩
   have d6:=(a6k hn).1;have aB:=a8m (af:=N0) hn hw;have c1:(i:Int)<(kinds c.nodes 0).length:=by omega
   have aT:=wI1 (n:=i) (by omega);have lD:i<p.ins.length:=by omega
   generalize a1s N0 ((kinds c.nodes 0).take i) (p.ins.take i)=N at aB bj;obtain⟨w0,bJ⟩:∃w,N[n]?=some w:=⟨_,z9e (by omega)⟩
   have iJ:(N.map u8R).set n [AV.int .u8 w]=(N.set n w).map u8R:=by rw[f1f];rfl
   (repeat first|simp only[ww]|(apply xa;simp+decide only[go_sem,c1,aj,hn,hw,d6,aT,lD,bj,bJ,iJ];rfl;kernel_rfl))
   refine a25 (i+1) ?_ (by omega) (by omega);rw[aB]
   (simp+decide only[go_sem,a01,a00,a2s,a2k]<;>rfl)<;>rfl
  have ey:i=(kinds c.nodes 0).length:=by omega
  subst ey;have c1:¬((kinds c.nodes 0).length:Int)<(kinds c.nodes 0).length:=by omega
  rw[f0p,e8b (by omega)]at bj⊢;generalize a1s N0 (kinds c.nodes 0) p.ins=N1 at bj⊢
  (repeat first|simp only[ww]|(apply xa;simp+decide only[go_sem,c1,hs];rfl;kernel_rfl))
  refine a0l (σ:=Nat) kp60_2 (λi=>[(2,.ptr 1 0 0),(3,.ptr 2 0 0),(29,sl r1 ((kinds c.nodes 14).map a0f)),(30,.int .i64 (kinds c.nodes 14).length),(31,.int .i64 i)])
   (λi=>[some (.row 1 ((a1s N1 ((kinds c.nodes 14).take i) (p.sts.take i)).map u8R)),some (.row 5 [[sl c.nc (c.nodes.map Nd.enc),sl c.mc (c.names.map a1c),.nilslice,sl c.oc (c.outs.map a0f),.slice 0 0 c.nodes.length (some c.nodes.length)]]),some (.row 2 [[sl p.ic (p.ins.map u8R),sl p.sc (p.sts.map u8R)]])]) (λi=>(kinds c.nodes 14).length-i) (λi=>i≤(kinds c.nodes 14).length) 0 ?_ (e8e _) ?_
  ·rw[e9l,e9l,show a1s N1 [] []=N1 from rfl]
   (simp+decide only[go_sem,a01,a00,a2s,a2k]<;>rfl)<;>rfl
  ·intro i hi;have lz:=a4a ((kinds c.nodes 14).take i) (p.sts.take i) N1;rw[bj]at lz;by_cases aj:i<(kinds c.nodes 14).length
   ·obtain⟨n,hn⟩:∃n,(kinds c.nodes 14)[i]?=some n:=⟨_,z9e aj⟩
    obtain⟨w,hw⟩:∃w,p.sts[i]?=some w:=⟨_,z9e (by omega)⟩
    have d6:=(a6k hn).1;have aB:=a8m (af:=N1) hn hw;have c1:(i:Int)<(kinds c.nodes 14).length:=by omega
    have aT:=wI1 (n:=i) (by omega);have lD:i<p.sts.length:=by omega
    generalize a1s N1 ((kinds c.nodes 14).take i) (p.sts.take i)=N at aB lz;obtain⟨w0,bJ⟩:∃w,N[n]?=some w:=⟨_,z9e (by omega)⟩
    have iJ:(N.map u8R).set n [AV.int .u8 w]=(N.set n w).map u8R:=by rw[f1f];rfl
    (repeat first|simp only[ww]|(apply xa;simp+decide only[go_sem,c1,aj,hn,hw,d6,aT,lD,lz,bJ,iJ];rfl;kernel_rfl))
    refine a25 (i+1) ?_ (by omega) (by omega);rw[aB]
    (simp+decide only[go_sem,a01,a00,a2s,a2k]<;>rfl)<;>rfl
   have ey:i=(kinds c.nodes 14).length:=by omega
   subst ey;have c1:¬((kinds c.nodes 14).length:Int)<(kinds c.nodes 14).length:=by omega
   rw[f0p,e8b (by omega)]
   (repeat first|simp only[ww]|(apply xa;simp+decide only[go_sem,c1];rfl;kernel_rfl))
   refine b7p (vs:=[]) (r:=(_,[_])) (by simp+decide only[go_sem]) ?_ rfl;simp+decide only[go_sem,a2s]<;>rfl
def a39:List Nat→AV
 | []=>.nilslice
 |v::r=>.islice ((v::r).map u8R) (some (r.length+1))
theorem a1x(l:List Nat):refs (a39 l)=[]:=by cases l<;>rfl
def b0h(o x:List Nat):AV:=.agg [a39 o,a39 x]
theorem a5o(o x:List Nat):refs (b0h o x)=[]:=by simp only[b0h,a0n,a06,a1x,a0z,e7i]
theorem c7a(c:Cir)(af:List Nat)(hl:af.length=c.nodes.length)(hv:∀v∈af,v≤3)(n v:Nat)(hn:af[n]?=some v):sem L.env Mf 115 [.agg [sl c.nc (c.nodes.map Nd.enc),sl c.mc (c.names.map a1c),.nilslice,sl c.oc (c.outs.map a0f),.slice 0 0 c.nodes.length (some c.nodes.length)],.int .i64 n] [some (.row 1 (af.map u8R))]=some (.int .u8 v,[some (.row 1 (af.map u8R))]):=by
 have aj:=(e7k.1 hn).1;have h0:¬(n:Int)<0:=by omega
 have h1:¬(c.nodes.length:Int)≤n:=by omega
 have h2:n<c.nodes.length:=by omega
 have hc:∀(d:Bool) H,a0a L.env d (sem L.env Mf) (.func (.func 151) [] []) [.int .u8 v] H=some (.int .u8 v,H,[]):=λd H=>by have:=a04 (E:=L.env) (ag:=d) (call:=sem L.env Mf) (fs:=[]) (cs:=[]) (ar:=[.int .u8 v]) (v:=.int .u8 (a4f v:Nat)) (H:=H) (g:=151) (by kernel_rfl) (by kernel_rfl) rfl rfl (c04 v) rfl;rw[c43 (hv v (c11 hn))]at this;exact this
 (refine sv Tryz.f115 ?_;simp only[Tryz.f115,gS])
 (repeat first|simp only[ww]|(apply xa;simp+decide only[go_sem,h0,h1,h2,hl,hn,hc];rfl;kernel_rfl))
 refine a6s (vs:=[.int .u8 v]) (by simp+decide only[go_sem]) ?_;simp+decide only[go_sem,a2s]<;>rfl
theorem c0s{d:Bool}{H:a03}{b:Nat}(c:Cir)(af:List Nat)(hl:af.length=c.nodes.length)(hv:∀v∈af,v≤3)(n v:Nat)(hn:af[n]?=some v)(hb:a02 H b=some (.row 1 (af.map u8R))) :
 a0a L.env d (sem L.env Mf) (.func (.func 115) [] []) [.agg [sl c.nc (c.nodes.map Nd.enc),sl c.mc (c.names.map a1c),.nilslice,sl c.oc (c.outs.map a0f),.slice b 0 c.nodes.length (some c.nodes.length)],.int .i64 n] H=some (.int .u8 v,H,[b]):=
 a2v (fs:=[]) (cs:=[]) (ar:=[.agg [sl c.nc (c.nodes.map Nd.enc),sl c.mc (c.names.map a1c),.nilslice,sl c.oc (c.outs.map a0f),.slice b 0 c.nodes.length (some c.nodes.length)],.int .i64 n]) (by kernel_rfl) (by kernel_rfl) rfl hb (a0k (a2d af)) (FlatO.row (a2d af)) (by simp only[e7l,e7i,go_sem]) (au:=[.agg [sl c.nc (c.nodes.map Nd.enc),sl c.mc (c.names.map a1c),.nilslice,sl c.oc (c.outs.map a0f),.slice 0 0 c.nodes.length (some c.nodes.length)],.int .i64 n]) (by simp only[e7l,e7i,e12,e7j,c1c,a1p,b8y,a7r,c7y]) (c7a c af hl hv n v hn) rfl
theorem d4q(n:Nat)(aa:List (List AV))(hf:FlatR aa):sem L.env Mf 116 [.slice 0 0 n none] [some (.row 1 aa)]=some (.slice 0 0 n (some n),[some (.row 1 aa)]):=by
 have h1:=λπ=>a05 π hf
 (refine sv Tryz.f116 ?_;simp only[Tryz.f116,gS])
 (repeat first|simp only[ww]|(apply xa;simp+decide only[go_sem];rfl;kernel_rfl))
 (apply fqb;simp+decide only[go_sem,h1]<;>rfl)
theorem a8n{d:Bool}{H:a03}{b n:Nat}{aa:List (List AV)}(hf:FlatR aa)(hb:a02 H b=some (.row 1 aa)):a0a L.env d (sem L.env Mf) (.func (.func 116) [] []) [.slice b 0 n none] H=some (.slice b 0 n (some n),H,[b]):=by have h:=a2y (E:=L.env) (ag:=d) (call:=sem L.env Mf) (g:=116) (fs:=[]) (cs:=[]) (ar:=[.slice b 0 n none]) (H:=H) (b:=b) (by kernel_rfl) (by kernel_rfl) rfl hb (a0k hf) (FlatO.row hf) rfl (au:=[AV.slice 0 0 n none]) (by simp only[e7l,e7i,e12,e7j,a1p]) (d4q n aa hf) (FlatO.row hf) (a4r b 0 _ n _);rw[a6u hb]at h;exact h
theorem d0s:sem L.env Mf 116 [.nilslice] []=some (.nilslice,[]):=by
 (refine sv Tryz.f116 ?_;simp only[Tryz.f116,gS])
 (repeat first|simp only[ww]|(apply xa;simp+decide only[go_sem];rfl;kernel_rfl))
 (apply fqb;simp+decide only[go_sem]<;>rfl)
theorem b44{d:Bool}(H:a03):a0a L.env d (sem L.env Mf) (.func (.func 116) [] []) [.nilslice] H=some (.nilslice,H,[]):=a04 (by kernel_rfl) (by kernel_rfl) rfl rfl d0s rfl
def a32(nodes:List Nd)(af:List Nat):List Nat:=(kinds nodes 14).map λn=>a56 (af.getD ((a2q nodes n).getD 0 0) 0)
def a1f(outs af:List Nat):List Nat:=outs.map λn=>af.getD n 0
theorem d7c(c:Cir)(hc:c.wf)(hO:c.outs≠[])(af:List Nat)(hl:af.length=c.nodes.length)(hv:∀v∈af,v≤3):sem L.env Mf 63 [.agg [sl c.nc (c.nodes.map Nd.enc),sl c.mc (c.names.map a1c),.nilslice,sl c.oc (c.outs.map a0f),.slice 0 0 c.nodes.length (some c.nodes.length)]] [some (.row 1 (af.map u8R))]=some (b0h (a1f c.outs af) (a32 c.nodes af),[some (.row 1 (af.map u8R))]):=by
 have dw:=hc.len;have dF:=hc.outl;obtain⟨r1,e4⟩:=a4d (kinds c.nodes 14);have jQ:=a3q c.nodes 14;have hs:=λ(d:Bool) H=>a5l (d:=d) H c (by omega);rw[e4]at hs;simp only[Cir.enc]at hs;have cz:=λ(d:Bool) (H:a03) (n v:Nat) (hn:af[n]?=some v) (hb:a02 H 0=some (.row 1 (af.map u8R)))=>c0s (d:=d) (H:=H) (b:=0) c af hl hv n v hn hb;have jm:=a2d af;have n1:=a08 jm;have n2:=λπ=>a05 π jm
 suffices hs:∃r:AV×a03,(r=(b0h (a1f c.outs af) (a32 c.nodes af),[some (.row 1 (af.map u8R))]))∧sem L.env Mf 63 [.agg [sl c.nc (c.nodes.map Nd.enc),sl c.mc (c.names.map a1c),.nilslice,sl c.oc (c.outs.map a0f),.slice 0 0 c.nodes.length (some c.nodes.length)]] [some (.row 1 (af.map u8R))]=some r by obtain⟨r,rfl,h3⟩:=hs;exact h3
 (refine svE Tryz.f63 ?_;simp only[Tryz.f63,gS])
 generalize hNR:af.map u8R=NR at cz jm n1 n2
 (repeat first|simp only[ww]|(apply xa;simp+decide only[go_sem];rfl;kernel_rfl))
 refine a3j kp63_0 (λn F H=>∃i,n=c.outs.length-i∧i≤c.outs.length∧F=[(1,.ptr 1 0 0),(2,.ptr 2 0 0),(3,.ptr 3 0 0),(12,sl c.oc (c.outs.map a0f)),(13,.int .i64 c.outs.length),(14,.int .i64 i)]∧H=[some (.row 1 NR),some (.row 5 [[sl c.nc (c.nodes.map Nd.enc),sl c.mc (c.names.map a1c),.nilslice,sl c.oc (c.outs.map a0f),.slice 0 0 c.nodes.length (some c.nodes.length)]]),some (.row 2 [[.nilslice,.nilslice]]),some (.row 2 [[grV 4 ((a1f (c.outs.take i) af).map u8R),.nilslice]])]++grH 1 ((a1f (c.outs.take i) af).map u8R)) c.outs.length ?_ ?_
 ·refine⟨_,_,?_,0,rfl,e8e _,rfl,rfl⟩;rw[e9l,show a1f [] af=[]from rfl]
  (simp+decide only[go_sem,a01,a00,a0p,a0q,e7j,n1,n2]<;>rfl)<;>rfl
 ·rintro n F H ⟨i,rfl,hi,rfl,rfl⟩
  have gE:((a1f (c.outs.take i) af).map u8R).length=i:=by simp[a1f];omega
  have ft:=a2d (a1f (c.outs.take i) af);by_cases aj:i<c.outs.length
  ·obtain⟨o,ho⟩:∃o,c.outs[i]?=some o:=⟨_,z9e aj⟩
   have mi:=hc.outs o (c11 ho);obtain⟨v,kz⟩:∃v,af[o]?=some v:=⟨_,z9e (by omega)⟩
   have c1:(i:Int)<c.outs.length:=by omega
   have aT:=wI1 (n:=i) (by omega);have eG:(a1f (c.outs.take (i+1)) af).map u8R=(a1f (c.outs.take i) af).map u8R++[[.int .u8 v]]:=by unfold a1f;rw[a1d ho,e8l,e8l];simp only[e12,e7j,List.getD,kz,e9x];rfl
   have cV:=λ(d:Bool) (H:a03) (hb:a02 H 0=some (.row 1 NR))=>cz d H o v kz hb;generalize(a1f (c.outs.take i) af).map u8R=T at gE ft eG;have ed:=a08 ft;have fw:=λπ=>a05 π ft;cases T with
   |nil=>
    have cV:=λ(d:Bool) (x1 x2 x3:Option AObj)=>cV d [some (.row 1 NR),x1,x2,x3] rfl
    (repeat first|simp only[ww]|(apply xa;simp+decide only[go_sem,c1,aj,ho,aT,cV,a0p,a0q];rfl;kernel_rfl))
    refine a0x (c.outs.length-(i+1)) (by omega) ⟨_,_,?_,i+1,rfl,aj,rfl,rfl⟩;rw[eG]
    (simp+decide only[go_sem,a01,a00,a09,a0b,e7l,e8c,n1,n2]<;>rfl)<;>rfl
   |cons a r=>
    simp only[e7g]at gE;have aK:r.length+1+1≤1000000000:=by omega
    simp only[e9v]at ed;simp only[e12,List.cons.injEq]at fw;have cV:=λ(d:Bool) (x1 x2 x3 x4:Option AObj)=>cV d [some (.row 1 NR),x1,x2,x3,x4] rfl
    (repeat first|simp only[ww]|(apply xa;simp+decide only[go_sem,c1,aj,ho,aT,cV,a09,a0b,aK];rfl;kernel_rfl))
    refine a0x (c.outs.length-(i+1)) (by omega) ⟨_,_,?_,i+1,rfl,aj,rfl,rfl⟩;rw[eG]
    (simp+decide only[go_sem,a01,a00,a09,a0b,e9h,ed,fw,n1,n2]<;>rfl)<;>rfl
  ·obtain rfl:i=c.outs.length:=by omega
   have c1:¬(c.outs.length:Int)<c.outs.length:=by omega
   rw[f0p]at gE ft⊢;have fu:0<c.outs.length:=List.length_pos_iff.2 hO;have qK:a39 (a1f c.outs af) = .islice ((a1f c.outs af).map u8R) (some c.outs.length):=by
    have er:(a1f c.outs af).length=c.outs.length:=by simp[a1f]
    cases ho:a1f c.outs af with
    |nil=>rw[ho]at er;simp at er;omega
    |cons v q=>rw[ho]at er;simp only[e7g]at er;rw[←er];rfl
   unfold b0h;rw[qK];generalize(a1f c.outs af).map u8R=T at gE ft;cases T with
   |nil=>simp at gE;omega
   |cons a r=>
    have gj:r.length+1=c.outs.length:=by simpa using gE
    have ed:=a08 ft;have fw:=λπ=>a05 π ft;have l5:=λ(m:Nat) (q:AV→Option AV)=>a12 m q ft;simp only[e9v]at ed;simp only[e12,List.cons.injEq]at fw
    (repeat first|simp only[ww]|(apply xa;simp+decide only[go_sem,c1,hs,a09,a0b];rfl;kernel_rfl))
    refine a3j kp63_2 (λn F H=>∃i,n=(kinds c.nodes 14).length-i∧i≤(kinds c.nodes 14).length∧F=[(1,.ptr 1 0 0),(2,.ptr 2 0 0),(3,.ptr 3 0 0),(29,sl r1 ((kinds c.nodes 14).map a0f)),(30,.int .i64 (kinds c.nodes 14).length),(31,.int .i64 i)]∧H=[some (.row 1 NR),some (.row 5 [[sl c.nc (c.nodes.map Nd.enc),sl c.mc (c.names.map a1c),.nilslice,sl c.oc (c.outs.map a0f),.slice 0 0 c.nodes.length (some c.nodes.length)]]),some (.row 2 [[.nilslice,.nilslice]]),some (.row 2 [[.slice 4 0 (r.length+1) none,grV 5 (((a32 c.nodes af).take i).map u8R)]]),some (.row 1 (a::r))]++grH 1 (((a32 c.nodes af).take i).map u8R)) (kinds c.nodes 14).length ?_ ?_
    ·refine⟨_,_,?_,0,rfl,e8e _,rfl,rfl⟩;rw[e9l]
     (simp+decide only[go_sem,a01,a00,a0p,a0q,e7j,n1,n2,ed,fw]<;>rfl)<;>rfl
    ·rintro n F H ⟨i,rfl,hi,rfl,rfl⟩
     have pf:(a32 c.nodes af).length=(kinds c.nodes 14).length:=by simp[a32]
     have gY:(((a32 c.nodes af).take i).map u8R).length=i:=by simp;omega
     have eR:=a2d ((a32 c.nodes af).take i);by_cases aj:i<(kinds c.nodes 14).length
     ·obtain⟨q,hq⟩:∃q,(kinds c.nodes 14)[i]?=some q:=⟨_,z9e aj⟩
      obtain⟨mg,np⟩:=a6k hq;obtain⟨x,hx⟩:∃x,c.nodes[q]?=some x:=⟨_,z9e mg⟩
      have em:x.kind=14:=by rw[←a16 hx];exact np
      have fY:x.ins.length=1:=by have h1:=hc.lo x (c11 hx);have h2:=hc.hi x (c11 hx);rw[em]at h1 h2;have e1:a22 14=1:=rfl;have e2:a23 14=1:=rfl;omega
      obtain⟨m,hm⟩:∃m,x.ins[0]?=some m:=⟨_,z9e (by omega)⟩
      have db:=hc.ins x (c11 hx) m (c11 hm);obtain⟨v,kz⟩:∃v,af[m]?=some v:=⟨_,z9e (by omega)⟩
      have gZ:((a32 c.nodes af).take (i+1)).map u8R=((a32 c.nodes af).take i).map u8R++[[.int .u8 (a56 v)]]:=by
       have:(a32 c.nodes af)[i]?=some (a56 v):=by unfold a32;rw[e8a,hq];simp only[e8d,a20 hx,List.getD,hm,kz,e9x]
       rw[a1d this,e8l];rfl
      have c1:(i:Int)<(kinds c.nodes 14).length:=by omega
      have aT:=wI1 (n:=i) (by omega);have fC:decide ((x.ins.length:Int)=1)=true:=e9w (by omega);have oB:Ax.rowAt (x.ins.map a0f) 0=some [AV.int .i64 m]:=by have:=c7w (x.ins.map a0f) 0;rw[Int.natCast_zero]at this;rw[this,e8a,hm];rfl
      have cV:=λ(d:Bool) (H:a03) (hb:a02 H 0=some (.row 1 NR))=>cz d H m v kz hb;have iL:=λ(d:Bool) (H:a03)=>a6j (d:=d) H v;generalize a56 v=w at gZ iL;generalize((a32 c.nodes af).take i).map u8R=X at gY eR gZ;have l7:=a08 eR;have l6:=λπ=>a05 π eR;cases X with
      |nil=>
       have cV:=λ(d:Bool) (x1 x2 x3 x4:Option AObj)=>cV d [some (.row 1 NR),x1,x2,x3,x4] rfl
       (repeat first|simp only[ww]|(apply xa;simp+decide only[go_sem,c1,aj,hq,mg,hx,fC,oB,hm,aT,cV,iL,a0p,a0q];rfl;kernel_rfl))
       refine a0x ((kinds c.nodes 14).length-(i+1)) (by omega) ⟨_,_,?_,i+1,rfl,aj,rfl,rfl⟩;rw[gZ]
       (simp+decide only[go_sem,a01,a00,a09,a0b,e7l,e8c,n1,n2,ed,fw]<;>rfl)<;>rfl
      |cons a2 r2=>
       simp only[e7g]at gY;have aK:r2.length+1+1≤1000000000:=by omega
       simp only[e9v]at l7;simp only[e12,List.cons.injEq]at l6;have cV:=λ(d:Bool) (x1 x2 x3 x4 x5:Option AObj)=>cV d [some (.row 1 NR),x1,x2,x3,x4,x5] rfl
       (repeat first|simp only[ww]|(apply xa;simp+decide only[go_sem,c1,aj,hq,mg,hx,fC,oB,hm,aT,cV,iL,a09,a0b,aK];rfl;kernel_rfl))
       refine a0x ((kinds c.nodes 14).length-(i+1)) (by omega) ⟨_,_,?_,i+1,rfl,aj,rfl,rfl⟩;rw[gZ]
       (simp+decide only[go_sem,a01,a00,a09,a0b,e9h,l7,l6,n1,n2,ed,fw]<;>rfl)<;>rfl
     ·obtain rfl:i=(kinds c.nodes 14).length:=by omega
      have c1:¬((kinds c.nodes 14).length:Int)<(kinds c.nodes 14).length:=by omega
      have jB:=λ(d:Bool) (x0 x1 x2 x3:Option AObj) (R:a03)=>a8n (d:=d) (H:=x0::x1::x2::x3::some (.row 1 (a::r))::R) (b:=4) (n:=r.length+1) ft rfl;rw[e8b (by omega)]at gY eR⊢;cases hX:a32 c.nodes af with
      |nil=>
       have jC:=λ(d:Bool) (H:a03)=>b44 (d:=d) H
       (repeat first|simp only[ww]|(apply xa;simp+decide only[go_sem,c1,jB,jC,e7j,a0p,a0q];rfl;kernel_rfl))
       refine a21 (vs:=[.agg [.slice 4 0 (r.length+1) (some (r.length+1)),.nilslice]]) (r:=(_,_)) (by simp+decide only[go_sem]) ?_ rfl;show a1l false 1 (.agg [.slice 4 0 (r.length+1) (some (r.length+1)),.nilslice]) _=_;have cX:List.take (r.length+1) (a::r)=a::r:=f0p (l:=a::r);rw[←gj];unfold a39;simp+decide only[go_sem,l5,n2,cX]<;>rfl
      |cons a2 r2=>
       rw[hX]at gY eR;have ja:=λ(d:Bool) (x0 x1 x2 x3 x4:Option AObj)=>a8n (d:=d) (H:=[x0,x1,x2,x3,x4,some (.row 1 ((a2::r2).map u8R))]) (b:=5) (n:=r2.length+1) eR rfl;have oC:=λ(m:Nat) (q:AV→Option AV)=>a12 m q eR;have dl:(r2.map u8R).length=r2.length:=c10 ..;simp only[e12,u8R]at ja oC eR⊢
       (repeat first|simp only[ww]|(apply xa;simp+decide only[go_sem,c1,jB,ja,a09,a0b,dl];rfl;kernel_rfl))
       refine a21 (vs:=[.agg [.slice 4 0 (r.length+1) (some (r.length+1)),.slice 5 0 (r2.length+1) (some (r2.length+1))]]) (r:=(_,_)) (by simp+decide only[go_sem]) ?_ rfl;show a1l false 1 (.agg [.slice 4 0 (r.length+1) (some (r.length+1)),.slice 5 0 (r2.length+1) (some (r2.length+1))]) _=_;have cX:List.take (r.length+1) (a::r)=a::r:=f0p (l:=a::r);have lg:List.take (r2.length+1) ([AV.int .u8 a2]::r2.map u8R)=[AV.int .u8 a2]::r2.map u8R:=e8b (by simp);rw[←gj];unfold a39;simp only[e12,u8R];simp+decide only[go_sem,l5,oC,n2,cX,lg]<;>rfl
theorem c4r{d:Bool}{H:a03}{b:Nat}(c:Cir)(hc:c.wf)(p:Pat)(hp:PatOk c.nodes p)(N0:List Nat)(hN:N0.length=c.nodes.length)(hb:a02 H b=some (.row 1 (N0.map u8R))) :
 a0a L.env d (sem L.env Mf) (.func (.func 60) [] []) [.agg [sl c.nc (c.nodes.map Nd.enc),sl c.mc (c.names.map a1c),.nilslice,sl c.oc (c.outs.map a0f),.slice b 0 c.nodes.length (some c.nodes.length)],.agg [sl p.ic (p.ins.map u8R),sl p.sc (p.sts.map u8R)]] H=some (.tuple [],H.set b (some (.row 1 ((a1s (a1s N0 (kinds c.nodes 0) p.ins) (kinds c.nodes 14) p.sts).map u8R))),[b]):=
 a2y (fs:=[]) (cs:=[]) (ar:=[.agg [sl c.nc (c.nodes.map Nd.enc),sl c.mc (c.names.map a1c),.nilslice,sl c.oc (c.outs.map a0f),.slice b 0 c.nodes.length (some c.nodes.length)],.agg [sl p.ic (p.ins.map u8R),sl p.sc (p.sts.map u8R)]]) (by kernel_rfl) (by kernel_rfl) rfl hb (a0k (a2d N0)) (FlatO.row (a2d N0)) (by simp only[e7l,e7i,go_sem]) (au:=[.agg [sl c.nc (c.nodes.map Nd.enc),sl c.mc (c.names.map a1c),.nilslice,sl c.oc (c.outs.map a0f),.slice 0 0 c.nodes.length (some c.nodes.length)],.agg [sl p.ic (p.ins.map u8R),sl p.sc (p.sts.map u8R)]]) (by simp only[e7l,e7i,e12,e7j,c1c,a1p,b8y,a7r]) (d2f c hc p hp N0 hN) (FlatO.row (a2d _)) rfl
theorem c7o{d:Bool}{H:a03}{b:Nat}(c:Cir)(hc:c.wf)(hO:c.outs≠[])(af:List Nat)(hl:af.length=c.nodes.length)(hv:∀v∈af,v≤3)(hb:a02 H b=some (.row 1 (af.map u8R))) :
 a0a L.env d (sem L.env Mf) (.func (.func 63) [] []) [.agg [sl c.nc (c.nodes.map Nd.enc),sl c.mc (c.names.map a1c),.nilslice,sl c.oc (c.outs.map a0f),.slice b 0 c.nodes.length (some c.nodes.length)]] H=some (b0h (a1f c.outs af) (a32 c.nodes af),H,[b]):=
 a2v (fs:=[]) (cs:=[]) (ar:=[.agg [sl c.nc (c.nodes.map Nd.enc),sl c.mc (c.names.map a1c),.nilslice,sl c.oc (c.outs.map a0f),.slice b 0 c.nodes.length (some c.nodes.length)]]) (by kernel_rfl) (by kernel_rfl) rfl hb (a0k (a2d af)) (FlatO.row (a2d af)) (by simp only[e7l,e7i,go_sem]) (au:=[.agg [sl c.nc (c.nodes.map Nd.enc),sl c.mc (c.names.map a1c),.nilslice,sl c.oc (c.outs.map a0f),.slice 0 0 c.nodes.length (some c.nodes.length)]]) (by simp only[e7l,e7i,e12,e7j,c1c,a1p,b8y,a7r]) (d7c c hc hO af hl hv) (a5o _ _)
theorem b9f{d:Bool}{H:a03}{b:Nat}(k:Nat)(hk:k<16)(l:List Nat)(hl:l.length<1000000)(cp:Option Nat)(X:List (List AV))(hX:FlatR X)(gY:X.take l.length=l.map u8R)(hb:a02 H b=some (.row 1 X)){m:Nat}(hm:m=l.length) :
 a0a L.env d (sem L.env Mf) (.func (.func 62) [] []) [.int .u8 k,.slice b 0 m cp] H=some (.int .u8 (a4m k l:Nat),H,[b]):=by
 subst hm;have hs:X=l.map u8R++X.drop l.length:=by rw[←gY,f3z]
 have hr:=b7f k hk l (.slice 0 0 l.length cp) [some (.row 1 (l.map u8R++X.drop l.length))] (.blk cp _ (by rw[←hs];exact hX)) hl;rw[←hs]at hr;exact a2v (fs:=[]) (cs:=[]) (ar:=[.int .u8 k,.slice b 0 l.length cp]) (by kernel_rfl) (by kernel_rfl) rfl hb (a0k hX) (FlatO.row hX) (by simp only[e7l,e7i,go_sem]) (au:=[.int .u8 k,.slice 0 0 l.length cp]) (by simp only[e7l,e7i,e12,e7j,a1p,c7y]) hr rfl
theorem c4u{d:Bool}(H:a03)(c:Cir)(h:c.wf)(p:Pat)(hp:PatOk c.nodes p):a0a L.env d (sem L.env Mf) (.func (.func 59) [] []) [.agg c.enc,.agg p.enc] H=some (.int .i64 0,H,[]):=a04 (by kernel_rfl) (by kernel_rfl) rfl (by simp only[a06,a0n,Cir.enc,Pat.enc,go_sem]) (d98 c h p hp) rfl
theorem a27(l:List Nat):(a39 l).storable=true:=by cases l<;>rfl
def a5z(c:Cir)(ord:List Nat)(p:Pat):List Nat:=c59 nAlg c.nodes hk0 ord (kinds c.nodes 0) (kinds c.nodes 14) p.ins p.sts
theorem f4c{X:List (List AV)}{j n:Nat}{x:List AV}(hl:X.length=n)(hj:j<n):(X.take j++[x]++X.drop (j+1)).length=n∧(X.take j++[x]++X.drop (j+1)).take (j+1)=X.take j++[x]:=by refine⟨by simp;omega,?_⟩;rw[List.take_append_of_le_length (by simp;omega),e8b (by simp;omega)]
theorem c9l{X:List (List AV)}{j:Nat}{x:List AV}(hX:FlatR X)(hx:a0d x=[]):FlatR (X.take j++[x]++X.drop (j+1)):=by
 intro r hr;simp only[e9s,e8k]at hr;rcases hr with (hr|rfl)|hr
 ·exact hX r (List.mem_of_mem_take hr)
 ·exact hx
 ·exact hX r (List.mem_of_mem_drop hr)
theorem b7e:∀(is vs N:List Nat),(∀v∈N,v≤3)→(∀v∈vs,v≤3)→∀v∈a1s N is vs,v≤3
 | [],vs,N,h,_=>by cases vs<;>exact h
 |_::_,[],N,h,_=>h
 |i::is,w::vs,N,h,hv=>by
  simp only[a1s];refine b7e is vs _ (λv hm=>?_) (λv hm=>hv v (f0w _ hm));rcases f1n hm with h1|h1
  ·exact h v h1
  ·rw[h1];exact hv w (f2o ..)
theorem d7q{nodes:List Nd}{N:List Nat}{n:Nat}(h:∀v∈N,v≤3):∀v∈a1g nAlg nodes hk0 N n,v≤3:=by
 have key:∀(l:List Nat) (p:Nat),∀v∈a55 nAlg hk0 n N p l,v≤3:=by
  intro l
  induction l with
  |nil=>intro p v hv;simp[a55]at hv
  |cons m l ih=>
   intro p v hv;simp only[a55,e9m]at hv;rcases hv with rfl|hv
   ·show N.getD m 0≤3;rw[List.getD];cases hm:N[m]? with
    |none=>decide
    |some w=>exact h w (c11 hm)
   ·exact ih _ v hv
 exact key _ _
theorem c7n(c:Cir)(hc:c.wf)(hO:c.outs≠[])(p:Pat)(hp:PatOk c.nodes p)(ord:List Nat)(aG:OrdOf c ord):sem L.env Mf 23 [.agg c.enc,.agg p.enc] []=some (.tuple [b0h (a1f c.outs (a5z c ord p)) (a32 c.nodes (a5z c ord p)),.islice ((a5z c ord p).map u8R) (some c.nodes.length),.int .i64 0],[]):=by
 have dw:=hc.len;have aK:c.nodes.length≤1000000000:=by omega
 have ho:=aG.call;have bU:∀n∈ord,n<c.nodes.length:=λn hn=>by have:=aG.perm.mem_iff.1 hn;simpa using this
 have dF:ord.length=c.nodes.length:=by rw[aG.perm.length_eq];simp
 have kN:=λ(d:Bool) H=>c4u (d:=d) H c hc p hp;have dg:c.enc=[sl c.nc (c.nodes.map Nd.enc),sl c.mc (c.names.map a1c),.nilslice,sl c.oc (c.outs.map a0f)]:=rfl;have dZ:Pat.enc p=[sl p.ic (p.ins.map u8R),sl p.sc (p.sts.map u8R)]:=rfl;rw[dg,dZ]at kN;rw[dg]at ho;rw[dg,dZ];have qa:=λ(d:Bool) (x0 x1 x2 x4:Option AObj)=>c4r (d:=d) (H:=[x0,x1,x2,some (.row 1 ((List.replicate c.nodes.length 0).map u8R)),x4]) (b:=3) c hc p hp (List.replicate c.nodes.length 0) (by simp) rfl;have fM:=λ(d:Bool) (x0 x1 x3:Option AObj) (N:List Nat) (hl:N.length=c.nodes.length) (hv:∀v∈N,v≤3)=>c7o (d:=d) (H:=[x0,x1,some (.row 1 (N.map u8R)),x3]) (b:=2) c hc hO N hl hv rfl;have ow:(a1s (a1s (List.replicate c.nodes.length 0) (kinds c.nodes 0) p.ins) (kinds c.nodes 14) p.sts).length=c.nodes.length:=by rw[a4a,a4a];simp
 have gF:∀v∈a1s (a1s (List.replicate c.nodes.length 0) (kinds c.nodes 0) p.ins) (kinds c.nodes 14) p.sts,v≤3:=b7e _ _ _ (b7e _ _ _ (λv hv=>by rw[f01 hv];omega) hp.inv) hp.stv;have hG:a5z c ord p=ord.foldl (Pc.stepG nAlg c.nodes hk0) (a1s (a1s (List.replicate c.nodes.length 0) (kinds c.nodes 0) p.ins) (kinds c.nodes 14) p.sts):=rfl;rw[hG];have pI:(List.replicate c.nodes.length 0).map u8R=List.replicate c.nodes.length [AV.int .u8 0]:=by rw[f3c];rfl
 rw[pI]at qa;generalize a1s (a1s (List.replicate c.nodes.length 0) (kinds c.nodes 0) p.ins) (kinds c.nodes 14) p.sts=N1 at qa ow gF⊢
 suffices hs:∃r:AV×a03,(r=(.tuple [b0h (a1f c.outs (ord.foldl (Pc.stepG nAlg c.nodes hk0) N1)) (a32 c.nodes (ord.foldl (Pc.stepG nAlg c.nodes hk0) N1)),.islice ((ord.foldl (Pc.stepG nAlg c.nodes hk0) N1).map u8R) (some c.nodes.length),.int .i64 0],[]))∧sem L.env Mf 23 [.agg [sl c.nc (c.nodes.map Nd.enc),sl c.mc (c.names.map a1c),.nilslice,sl c.oc (c.outs.map a0f)],.agg [sl p.ic (p.ins.map u8R),sl p.sc (p.sts.map u8R)]] []=some r by obtain⟨r,rfl,h3⟩:=hs;exact h3
 (refine svE Tryz.f23 ?_;simp only[Tryz.f23,gS])
 (repeat first|simp only[ww]|(apply xa;simp+decide only[go_sem,ho,kN,aK,qa];rfl;kernel_rfl))
 refine a3j kp23_0 (λn F H=>∃(i q:Nat) (X:List (List AV)),n=ord.length-i∧i≤ord.length∧q≤16∧X.length=16∧FlatR X∧(∀v∈(ord.take i).foldl (Pc.stepG nAlg c.nodes hk0) N1,v≤3)∧F=[(4,.ptr 0 0 0),(9,.ptr 1 0 0),(10,.slice 3 0 q (some 16)),(40,.islice (ord.map a0f) (some c.nodes.length)),(41,.int .i64 ord.length),(42,.int .i64 i)]∧H=[some (.row 2 [[.nilslice,.nilslice]]),some (.row 5 [[sl c.nc (c.nodes.map Nd.enc),sl c.mc (c.names.map a1c),.nilslice,sl c.oc (c.outs.map a0f),.slice 2 0 c.nodes.length (some c.nodes.length)]]),some (.row 1 (((ord.take i).foldl (Pc.stepG nAlg c.nodes hk0) N1).map u8R)),some (.row 1 X)]) ord.length ?_ ?_
 ·refine⟨_,_,?_,0,0,List.replicate 16 [.int .u8 0],rfl,e8e _,by omega,rfl,λr hr=>by rw[f01 hr];rfl,by rw[e9l];exact gF,rfl,rfl⟩;rw[e9l,List.foldl_nil]
  (simp+decide only[go_sem,a01,a00,a2s,a2k]<;>rfl)<;>rfl
 ·rintro n F H ⟨i,q,X,rfl,hi,hq,gY,eR,ip,rfl,rfl⟩
  have bj:=b7q (A:=nAlg) (nodes:=c.nodes) (h:=hk0) (ord.take i) N1;rw[ow]at bj;have x1:=a08 eR;have x2:=λπ=>a05 π eR;by_cases aj:i<ord.length
  ·obtain⟨n,hn⟩:∃n,ord[i]?=some n:=⟨_,z9e aj⟩
   have d6:=bU n (c11 hn);obtain⟨x,hx⟩:∃x,c.nodes[n]?=some x:=⟨_,z9e d6⟩
   have dN:=c11 hx;have k14:=hc.kind x dN;have dp:=hc.insl dN;have mo:=a16 hx;have hs:=b9v (A:=nAlg) (nodes:=c.nodes) (h:=hk0) (af:=N1) hn;have c1:(i:Int)<ord.length:=by omega
   have aT:=wI1 (n:=i) (by omega);have bO:=λ(d:Bool) H=>b43 (d:=d) H x.kind (by omega);have pB:x.enc=[.int .u8 x.kind,sl x.c (x.ins.map a0f),.int .i64 x.mem,.int .i64 x.bit]:=rfl;generalize(ord.take i).foldl (Pc.stepG nAlg c.nodes hk0) N1=N at hs bj ip;obtain⟨w0,bJ⟩:∃w,N[n]?=some w:=⟨_,z9e (by omega)⟩
   by_cases cN:a1n x.kind=true
   ·have aw:a0t c.nodes n≠0∧a0t c.nodes n≠14:=by
     rw[mo];constructor<;>(intro e;rw[e]at cN;exact absurd cN (by decide))
    have iU:x.kind<16:=by omega
    have sx:a2q c.nodes n=x.ins:=a20 hx;have kT:(a1g nAlg c.nodes hk0 N n).length=x.ins.length:=by rw[a8h,sx]
    have pd:=d7q (nodes:=c.nodes) (n:=n) ip
    (repeat first|simp only[ww]|(apply xa;simp+decide only[go_sem,c1,aj,hn,hx,d6,bO,cN];rfl;kernel_rfl))
    refine a3j kp23_2 (λm F H=>∃(j:Nat) (Y:List (List AV)),m=x.ins.length-j∧j≤x.ins.length∧Y.length=16∧FlatR Y∧Y.take j=((a1g nAlg c.nodes hk0 N n).take j).map u8R∧F=[(4,.ptr 0 0 0),(9,.ptr 1 0 0),(10,.slice 3 0 j (some 16)),(12,.int .i64 n),(13,.ptr 4 0 0),(40,.islice (ord.map a0f) (some c.nodes.length)),(41,.int .i64 ord.length),(42,.int .i64 i),(59,sl x.c (x.ins.map a0f)),(60,.int .i64 x.ins.length),(61,.int .i64 j)]∧H=[some (.row 2 [[.nilslice,.nilslice]]),some (.row 5 [[sl c.nc (c.nodes.map Nd.enc),sl c.mc (c.names.map a1c),.nilslice,sl c.oc (c.outs.map a0f),.slice 2 0 c.nodes.length (some c.nodes.length)]]),some (.row 1 (N.map u8R)),some (.row 1 Y),some (.row 4 [[.int .u8 x.kind,sl x.c (x.ins.map a0f),.int .i64 x.mem,.int .i64 x.bit]])]) x.ins.length ?_ ?_
    ·refine⟨_,_,?_,0,X,rfl,e8e _,gY,eR,rfl,rfl,rfl⟩
     (simp+decide only[go_sem,a01,a00,a2s,a2k,x1,x2]<;>rfl)<;>rfl
    ·rintro m F H ⟨j,Y,rfl,hj,qH,lW,sn,rfl,rfl⟩
     have y1:=a08 lW;have y2:=λπ=>a05 π lW;by_cases bg:j<x.ins.length
     ·obtain⟨u,hu⟩:∃u,x.ins[j]?=some u:=⟨_,z9e bg⟩
      have oP:=hc.ins x dN u (c11 hu);obtain⟨v,hv⟩:∃v,N[u]?=some v:=⟨_,z9e (by omega)⟩
      have d1:(j:Int)<x.ins.length:=by omega
      have kY:=wI1 (n:=j) (by omega);have fK:=b5i (A:=nAlg) (h:=hk0) (nodes:=c.nodes) (af:=N) (n:=n) (i:=j) (by rw[sx];exact hu) hv;obtain⟨z1,z2⟩:=f4c (x:=[AV.int .u8 v]) qH (show j<16 by omega);have z3:=c9l (j:=j) (x:=[AV.int .u8 v]) lW rfl;generalize hZ:Y.take j++[[AV.int .u8 v]]++Y.drop (j+1)=Z at z1 z2 z3;rw[sn]at z2;have w1:=a08 z3;have w2:=λπ=>a05 π z3;have qf:j≤16:=by omega
      have qe:j+1≤16:=by omega
      (repeat first|simp only[ww]|(apply xa;simp+decide only[go_sem,d1,bg,hu,oP,hv,bj,kY,qH,qf,qe,hZ,e9y];rfl;kernel_rfl))
      refine a0x (x.ins.length-(j+1)) (by omega) ⟨_,_,?_,j+1,Z,rfl,bg,z1,z3,?_,rfl,rfl⟩
      ·(simp+decide only[go_sem,a01,a00,a2s,a2k,w1,w2,hZ]<;>rfl)<;>rfl
      ·rw[z2,fK,e8l];rfl
     ·obtain rfl:j=x.ins.length:=by omega
      have d1:¬(x.ins.length:Int)<x.ins.length:=by omega
      have gB:=λ(d:Bool) (x0 x1 x2 x4:Option AObj)=>b9f (d:=d) (H:=[x0,x1,x2,some (.row 1 Y),x4]) (b:=3) x.kind iU (a1g nAlg c.nodes hk0 N n) (by omega) (some 16) Y lW (by rw[kT,sn,e8b (by omega)]) rfl (m:=x.ins.length) kT.symm;have bK:Pc.stepG nAlg c.nodes hk0 N n=N.set n (a4m x.kind (a1g nAlg c.nodes hk0 N n)):=by unfold Pc.stepG;rw[e8j aw,mo];show N.set n (a4m x.kind ((a1g nAlg c.nodes hk0 N n).map a4f))=_;rw[b38 pd]
      have bl:=c3b x.kind _ pd;rw[bK]at hs;generalize a4m x.kind (a1g nAlg c.nodes hk0 N n)=w at gB hs bl;have iJ:(N.map u8R).set n [AV.int .u8 w]=(N.set n w).map u8R:=by rw[f1f];rfl
      (repeat first|simp only[ww]|(apply xa;simp+decide only[go_sem,d1,gB,d6,bj,bJ,iJ,aT];rfl;kernel_rfl))
      refine a0x (ord.length-(i+1)) (by omega) ⟨_,_,?_,i+1,x.ins.length,Y,rfl,aj,by omega,qH,lW,?_,rfl,rfl⟩
      ·rw[hs]
       (simp+decide only[go_sem,a01,a00,a2s,a2k,y1,y2]<;>rfl)<;>rfl
      ·rw[hs];intro v hv;rcases f1n hv with h1|h1
       ·exact ip v h1
       ·rw[h1];exact bl
   ·have cN:a1n x.kind=false:=by simpa using cN
    have bK:Pc.stepG nAlg c.nodes hk0 N n=N:=by
     have aw:¬(a0t c.nodes n≠0∧a0t c.nodes n≠14):=by rw[mo];intro hh;simp[a1n]at cN;omega
     unfold Pc.stepG;rw[e8g aw];show N.set n (N.getD n 0)=N;rw[List.getD,bJ,e9x];have:=(e7k.1 bJ)
     rw[←this.2];exact List.set_getElem_self this.1
    rw[bK]at hs
    (repeat first|simp only[ww]|(apply xa;simp+decide only[go_sem,c1,aj,hn,hx,d6,bO,cN,aT];rfl;kernel_rfl))
    refine a0x (ord.length-(i+1)) (by omega) ⟨_,_,?_,i+1,q,X,rfl,aj,hq,gY,eR,by rw[hs];exact ip,rfl,rfl⟩;rw[hs]
    (simp+decide only[go_sem,a01,a00,a2s,a2k,x1,x2]<;>rfl)<;>rfl
  ·obtain rfl:i=ord.length:=by omega
   have c1:¬(ord.length:Int)<ord.length:=by omega
   rw[f0p]at bj ip⊢;generalize ord.foldl (Pc.stepG nAlg c.nodes hk0) N1=N at bj ip⊢;have fM:=λ(d:Bool) (x0 x1 x3:Option AObj)=>fM d x0 x1 x3 N bj ip;unfold b0h at fM⊢;have q1:=a1x (a1f c.outs N);have gq:=a27 (a1f c.outs N);have ne:=a27 (a32 c.nodes N);have q2:=a1x (a32 c.nodes N);generalize a39 (a1f c.outs N)=V1 at fM q1 gq⊢;generalize a39 (a32 c.nodes N)=V2 at fM q2 ne⊢;have s1:V1.storable=true:=gq;have s2:V2.storable=true:=ne;have jm:=a2d N;have r1:∀π,ren π V1=V1:=λπ=>a0w π _ q1;have r2:∀π,ren π V2=V2:=λπ=>a0w π _ q2;have f1:=λm t d=>a1h m t d V1 q1;have f2:=λm t d=>a1h m t d V2 q2;have f3:=λm d=>a12 m d jm;have cX:(N.map u8R).take c.nodes.length=N.map u8R:=e8b (by simp;omega)
   (repeat first|simp only[ww]|(apply xa;simp+decide only[go_sem,c1,fM,s1,s2];rfl;kernel_rfl))
   refine a21 (vs:=[.agg [V1,V2],.slice 2 0 c.nodes.length (some c.nodes.length),.int .i64 0]) (r:=(_,_)) (by simp+decide only[go_sem]) ?_ rfl;show a1l false 0 (.tuple [.agg [V1,V2],.slice 2 0 c.nodes.length (some c.nodes.length),.int .i64 0]) _=_;simp+decide only[go_sem,f1,f2,f3,cX,bj]<;>rfl
end Go.UInst
