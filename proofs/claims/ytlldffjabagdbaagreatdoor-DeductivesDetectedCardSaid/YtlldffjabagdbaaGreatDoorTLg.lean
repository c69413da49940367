/- Part of a proof. No condition. -/
import Derived.Test.YtlldffjabagdbaaGreatDoorTNe
import Derived.Test.YtlldffjabagdbaaGreatDoorPcB
import Derived.Test.YtlldffjabagdbaaGreatDoorAxD
import Derived.Test.YtlldffjabagdbaaGreatDoorTPa
set_option linter.unusedSimpArgs false
set_option linter.unusedVariables false
namespace Go.TInst
open Go.Proofs Go.Ax Go.Pc
set_option maxRecDepth 100000
inductive RA(l:List Nat):AV→a03→Prop
 |imm (r:Rep):RA l (sl r (l.map u8R)) []
 |blk (c:Option Nat) (af:List (List AV)) (hf:FlatR (l.map u8R++af)):RA l (.slice 0 0 l.length c) [some (.row 1 (l.map u8R++af))]
theorem a1r(l:List Nat):FlatR (l.map u8R):=FlatR.map λ_=>rfl
theorem c2q{l:List Nat}{V:AV}{H:a03}(h:RA l V H):c4t L.env (a01 H) 36 V=some (.int .i64 l.length):=by
 cases h with
 |imm r=>simp+decide only[go_sem]
 |blk c af hf=>simp+decide only[go_sem]
theorem c2r{l:List Nat}{V:AV}{H:a03}(h:RA l V H){i v:Nat}(hi:l[i]?=some v):∃p,a10 L.env (a01 H) 36 V (.int .i64 i)=some p∧a7l L.env (a01 H) 54 p=some (.int .u8 v):=by
 have ah:=(c13.1 hi).1;cases h with
 |imm r=>exact⟨_,by simp+decide only[go_sem,hi,ah]<;>rfl,by simp+decide only[go_sem,hi,ah]⟩
 |blk c af hf=>
  have hg:(l.map u8R++af)[i]?=some [.int .u8 v]:=by rw[f6d (by simpa using ah),f4q,hi];rfl
  have bR:i<(l.map u8R++af).length:=by simp;omega
  exact⟨_,by simp+decide only[go_sem,hg,ah,bR]<;>rfl,by simp+decide only[go_sem,hg,ah,bR]⟩
theorem a1y{l:List Nat}{V v:AV}{H:a03}(h:RA l V H)(hv:refs v=[]):a1f false H.length v H=some (v,H):=by
 cases h with
 |imm r=>exact a7c hv
 |blk c af hf=>have h1:=λπ=>a0c π hf;have hr:∀π,ren π v=v:=λπ=>a14 π v hv;simp+decide only[go_sem,a1f,a43 _ _ _ _ hv,h1]
theorem e38{l:List Nat}{V:AV}{H:a03}(h:RA l V H)(b:Nat):a0x (a01 H b)=[]:=by
 cases h with
 |imm r=>rfl
 |blk c af hf=>
  cases b with
  |zero=>exact a0r hf
  |succ b=>rfl
theorem e0y{l:List Nat}{V:AV}{H:a03}(h:RA l V H):(∀b∈refs V,b<H.length)∧(refs V).length≤1:=by
 cases h with
 |imm r=>rw[a2w];exact⟨λb hb=>by simp at hb,by simp⟩
 |blk c af hf=>exact⟨λb hb=>by simp[refs]at hb;subst hb;simp,by simp[refs]⟩
theorem c0m{l:List Nat}{V:AV}{H:a03}(h:RA l V H){keep:List Nat}{F F':Frm}(hk:a2c keep F=F')(hF:a0l (F'.map (·.2))=refs V∨a0l (F'.map (·.2))=[]):gcD H.length keep F H=some (F',H):=by
 obtain⟨h1,h2⟩:=e0y h;refine e9c hk ?_ ?_ (e38 h)
 ·rcases hF with e|e<;>rw[e]
  ·exact h1
  ·intro b hb;simp at hb
 ·rcases hF with e|e<;>rw[e]
  ·omega
  ·simp
theorem a73{l:List Nat}{V:AV}{H:a03}(h:RA l V H){d:Bool}{g:FuncId}{pre post:List AV}{v:AV}(hx:L.env.ext g=false)(hf:(L.env.fn g).isSome=true)(hp:a0l pre=[])(hq:a0l post=[])(hv:refs v=[])
 (hr:∀V H,RA l V H→sem L.env Mf g (pre++V::post) H=some (v,H)):a0b L.env d (sem L.env Mf) (.func (.func g) [] []) (pre++V::post) H=some (v,H,refs V):=by
 have hr:=hr V H h;cases h with
 |imm r=>rw[a2w];exact a04 hx hf rfl (by simp only[e14,f4g,b40,a07,a2w,hp,hq]) (by simpa using hr) hv
 |blk c af aY=>refine a2e (b:=0) (fs:=[]) (cs:=[]) (args:=pre ++ .slice 0 0 l.length c::post) hx hf (by simp) rfl (a0r aY) (FlatO.row aY) (by simp only[b40,a07,hp,hq,a87,e14,f4g]) (au:=pre ++ .slice 0 0 l.length c::post) ?_ hr hv;rw[f6c,c10,a20];have e:∀l:List AV,a0l l=[]→l.map (ren (b0m [0]))=l:=λl hl=>a4n _ hl;rw[e _ hp,e _ hq]
/-! ### scalars -/
theorem d31(v:Nat):sem L.env Mf 29 [.int .u8 v] []=some (.bool (decide (v≤1)),[]):=by
 have e:decide ((v:Int)≤1)=decide (v≤1):=by rw[decide_eq_decide];omega
 (refine sv Tryz.f29 ?_;simp only[Tryz.f29,gS])
 (repeat first|simp only[ww]|(apply xa;simp+decide only[go_sem,e];rfl;kernel_rfl))
 (apply fqb;simp+decide only[go_sem]<;>rfl)
theorem b6b{d:Bool}(H:a03)(v:Nat):a0b L.env d (sem L.env Mf) (.func (.func 29) [] []) [.int .u8 v] H=some (.bool (decide (v≤1)),H,[]):=a04 (by kernel_rfl) (by kernel_rfl) rfl rfl (d31 v) rfl
theorem d7k(v:Nat):sem L.env Mf 57 [.int .u8 v] []=some (.int .u8 (a4t v:Nat),[]):=by
 have e:d5k (.int .u8 v) [.int .u8 2]=some (.int .u8 ((a4t v:Nat):Int)):=by
  simp only[d5k,a4t];by_cases h:(2:Int)<v
  ·rw[f6e h];congr 2;omega
  ·rw[f4n h];congr 2;omega
 generalize a4t v=w at e
 (refine sv Tryz.f57 ?_;simp only[Tryz.f57,gS])
 (repeat first|simp only[ww]|(apply xa;simp+decide only[go_sem,e];rfl;kernel_rfl))
 (apply fqb;simp+decide only[go_sem]<;>rfl)
theorem a89{d:Bool}(H:a03)(v:Nat):a0b L.env d (sem L.env Mf) (.func (.func 57) [] []) [.int .u8 v] H=some (.int .u8 (a4t v:Nat),H,[]):=a04 (by kernel_rfl) (by kernel_rfl) rfl rfl (d7k v) rfl
theorem e3t(v:Nat):sem L.env Mf 11 [.int .u8 v] []=some (.int .u8 (a9a v:Nat),[]):=by
 have hk:=λH=>b6b (d:=false) H v;by_cases h:v≤1
 ·have hw:IntKind.u8.wrap (1-(v:Int))=((1-v:Nat):Int):=by rw[IntWalk.u8_in _ ⟨by omega,by omega⟩];omega
  rw[show a9a v=1-v by simp[a9a,h]]
  (refine sv Tryz.f11 ?_;simp only[Tryz.f11,gS])
  (repeat first|simp only[ww]|(apply xa;simp+decide only[go_sem,hk,h,hw];rfl;kernel_rfl))
  (apply fqb;simp+decide only[go_sem]<;>rfl)
 ·rw[show a9a v=2 by simp[a9a,h]]
  (refine sv Tryz.f11 ?_;simp only[Tryz.f11,gS])
  (repeat first|simp only[ww]|(apply xa;simp+decide only[go_sem,hk,h];rfl;kernel_rfl))
  (apply fqb;simp+decide only[go_sem]<;>rfl)
theorem c37{d:Bool}(H:a03)(v:Nat):a0b L.env d (sem L.env Mf) (.func (.func 11) [] []) [.int .u8 v] H=some (.int .u8 (a9a v:Nat),H,[]):=a04 (by kernel_rfl) (by kernel_rfl) rfl rfl (e3t v) rfl
theorem e3u(s a b:Nat):sem L.env Mf 61 [.int .u8 s,.int .u8 a,.int .u8 b] []=some (.int .u8 (c0v s a b:Nat),[]):=by
 have ha:=λH=>a89 (d:=false) H a;have hb:=λH=>a89 (d:=false) H b;by_cases h0:s=0
 ·have c0:(s:Int)=0:=by omega
  rw[show c0v s a b=a4t a by simp[c0v,h0]]
  (refine sv Tryz.f61 ?_;simp only[Tryz.f61,gS])
  (repeat first|simp only[ww]|(apply xa;simp+decide only[go_sem,ha,c0];rfl;kernel_rfl))
  (apply fqb;simp+decide only[go_sem]<;>rfl)
 have c0:¬(s:Int)=0:=by omega
 by_cases h1:s=1
 ·have c1:(s:Int)=1:=by omega
  rw[show c0v s a b=a4t b by simp[c0v,h1]]
  (refine sv Tryz.f61 ?_;simp only[Tryz.f61,gS])
  (repeat first|simp only[ww]|(apply xa;simp+decide only[go_sem,hb,c1];rfl;kernel_rfl))
  (apply fqb;simp+decide only[go_sem]<;>rfl)
 have c1:¬(s:Int)=1:=by omega
 by_cases h2:a=b
 ·have c2:(a:Int)=b:=by omega
  rw[show c0v s a b=a4t a by simp[c0v,h0,h1,h2]]
  (refine sv Tryz.f61 ?_;simp only[Tryz.f61,gS])
  (repeat first|simp only[ww]|(apply xa;simp+decide only[go_sem,ha,c0,c1,c2];rfl;kernel_rfl))
  subst h2
  (repeat first|simp only[ww]|(apply xa;simp+decide only[go_sem,ha];rfl;kernel_rfl))
  (apply fqb;simp+decide only[go_sem]<;>rfl)
 ·have c2:¬(a:Int)=b:=by omega
  rw[show c0v s a b=2 by simp[c0v,h0,h1,h2]]
  (refine sv Tryz.f61 ?_;simp only[Tryz.f61,gS])
  (repeat first|simp only[ww]|(apply xa;simp+decide only[go_sem,c0,c1,c2];rfl;kernel_rfl))
  (apply fqb;simp+decide only[go_sem]<;>rfl)
theorem d30{d:Bool}(H:a03)(s a b:Nat):a0b L.env d (sem L.env Mf) (.func (.func 61) [] []) [.int .u8 s,.int .u8 a,.int .u8 b] H=some (.int .u8 (c0v s a b:Nat),H,[]):=a04 (by kernel_rfl) (by kernel_rfl) rfl rfl (e3u s a b) rfl
theorem e3s(e v:Nat):sem L.env Mf 62 [.int .u8 e,.int .u8 v] []=some (.int .u8 (c5o e v:Nat),[]):=by
 have ha:=λH=>a89 (d:=false) H v;by_cases h0:e=0
 ·have c0:(e:Int)=0:=by omega
  rw[show c5o e v=3 by simp[c5o,h0]]
  (refine sv Tryz.f62 ?_;simp only[Tryz.f62,gS])
  (repeat first|simp only[ww]|(apply xa;simp+decide only[go_sem,c0];rfl;kernel_rfl))
  (apply fqb;simp+decide only[go_sem]<;>rfl)
 have c0:¬(e:Int)=0:=by omega
 by_cases h1:e=1
 ·have c1:(e:Int)=1:=by omega
  rw[show c5o e v=a4t v by simp[c5o,h1]]
  (refine sv Tryz.f62 ?_;simp only[Tryz.f62,gS])
  (repeat first|simp only[ww]|(apply xa;simp+decide only[go_sem,ha,c1];rfl;kernel_rfl))
  (apply fqb;simp+decide only[go_sem]<;>rfl)
 have c1:¬(e:Int)=1:=by omega
 rw[show c5o e v=2 by simp[c5o,h0,h1]]
 (refine sv Tryz.f62 ?_;simp only[Tryz.f62,gS])
 (repeat first|simp only[ww]|(apply xa;simp+decide only[go_sem,c0,c1];rfl;kernel_rfl))
 (apply fqb;simp+decide only[go_sem]<;>rfl)
theorem d2v{d:Bool}(H:a03)(e v:Nat):a0b L.env d (sem L.env Mf) (.func (.func 62) [] []) [.int .u8 e,.int .u8 v] H=some (.int .u8 (c5o e v:Nat),H,[]):=a04 (by kernel_rfl) (by kernel_rfl) rfl rfl (e3s e v) rfl
/-! ### lists -/
theorem d08(l:List Nat)(V:AV)(H:a03)(hV:RA l V H)(hl:l.length<1000000)(low bK:Nat):sem L.env Mf 99 [V,.int .u8 low,.int .u8 bK] H=some (.int .u8 (a7u low bK bK l:Nat),H):=by
 have ai:=c2q hV;have cN:=e0y hV
 suffices hs:∃r:AV×a03,(r=(.int .u8 (a7u low bK bK l:Nat),H))∧sem L.env Mf 99 [V,.int .u8 low,.int .u8 bK] H=some r by obtain⟨r,rfl,h3⟩:=hs;exact h3
 (refine svE Tryz.f99 ?_;simp only[Tryz.f99,gS])
 (repeat first|simp only[ww]|(apply xa;simp+decide only[go_sem,ai];rfl;kernel_rfl))
 refine a4l kp99_0 (λn F H1=>∃(i aD:Nat),n=l.length-i∧i≤l.length∧F=[(1,.int .u8 low),(2,.int .u8 bK),(7,.int .u8 aD),(11,V),(12,.int .i64 l.length),(13,.int .i64 i)]∧H1=H∧a7u low bK aD (l.drop i)=a7u low bK bK l) l.length ?_ ?_
 ·exact⟨_,_,c0m hV (by simp+decide only[go_sem]<;>rfl) (.inl (by simp+decide only[go_sem])),0,bK,rfl,f4m _,rfl,rfl,rfl⟩
 ·rintro n F H1 ⟨i,aD,rfl,hi,rfl,rfl,a6⟩
  by_cases ah:i<l.length
  ·obtain⟨v,hv⟩:∃v,l[i]?=some v:=⟨_,z9e ah⟩
   obtain⟨p,fL,dW⟩:=c2r hV hv;have hd:l.drop i=v::l.drop (i+1):=by rw[←List.getElem_cons_drop ah,(c13.1 hv).2]
   rw[hd]at a6;have c1:(i:Int)<l.length:=by omega
   have hw:=wI1 (n:=i) (by omega);by_cases h1:v=low
   ·have c2:(v:Int)=low:=by omega
    simp only[a7u,h1,f9q]at a6
    (repeat first|simp only[ww]|(apply xa;simp+decide only[go_sem,c1,fL,dW,c2];rfl;kernel_rfl))
    refine a5l (vs:=[.int .u8 low]) (r:=(_,_)) (by simp+decide only[go_sem]) (a1y hV rfl) ?_;rw[←a6];rfl
   ·have c2:¬(v:Int)=low:=by omega
    by_cases h2:v=bK
    ·subst h2;simp only[a7u,f4n h1,f9q]at a6
     (repeat first|simp only[ww]|(apply xa;simp+decide only[go_sem,c1,fL,dW,c2,hw];rfl;kernel_rfl))
     refine a1j (l.length-(i+1)) (by omega) ⟨_,_,c0m hV (by simp+decide only[go_sem]<;>rfl) (.inl (by simp+decide only[go_sem])),i+1,aD,rfl,ah,rfl,rfl,a6⟩
    ·have c3:¬(v:Int)=bK:=by omega
     simp only[a7u,f4n h1,f4n h2]at a6
     (repeat first|simp only[ww]|(apply xa;simp+decide only[go_sem,c1,fL,dW,c2,c3,hw];rfl;kernel_rfl))
     refine a1j (l.length-(i+1)) (by omega) ⟨_,_,c0m hV (by simp+decide only[go_sem]<;>rfl) (.inl (by simp+decide only[go_sem])),i+1,2,rfl,ah,rfl,rfl,a6⟩
  ·obtain rfl:i=l.length:=by omega
   have c1:¬(l.length:Int)<l.length:=by omega
   rw[List.drop_length]at a6;simp only[a7u]at a6
   (repeat first|simp only[ww]|(apply xa;simp+decide only[go_sem,c1];rfl;kernel_rfl))
   refine c3w (vs:=[.int .u8 aD]) (r:=(_,_)) (by simp+decide only[go_sem]) (a1y hV rfl) ?_;rw[←a6];rfl
theorem b4d{l:List Nat}{V:AV}{H:a03}(hV:RA l V H)(hl:l.length<1000000){d:Bool}(low bK:Nat){a b:Int}(ha:a=low)(hb:b=bK):a0b L.env d (sem L.env Mf) (.func (.func 99) [] []) [V,.int .u8 a,.int .u8 b] H=some (.int .u8 (a7u low bK bK l:Nat),H,refs V):=by subst ha;subst hb;exact a73 hV (pre:=[]) (post:=[.int .u8 low,.int .u8 bK]) (by kernel_rfl) (by kernel_rfl) rfl rfl rfl (λV H hV=>d08 l V H hV hl low bK)
theorem e41(l:List Nat)(V:AV)(H:a03)(hV:RA l V H)(hl:l.length<1000000):sem L.env Mf 58 [V] H=some (.int .u8 (a7u 0 1 1 l:Nat),H):=by
 have hc:=b4d hV hl (d:=false) 0 1 (a:=0) (b:=1) rfl rfl;generalize a7u 0 1 1 l=w at hc
 (refine sv Tryz.f58 ?_;simp only[Tryz.f58,gS])
 (repeat first|simp only[ww]|(apply xa;simp+decide only[go_sem,hc];rfl;kernel_rfl))
 refine a7j (vs:=[.int .u8 w]) (by simp+decide only[go_sem]) (a1y hV rfl)
theorem d3d{l:List Nat}{V:AV}{H:a03}(hV:RA l V H)(hl:l.length<1000000){d:Bool}:a0b L.env d (sem L.env Mf) (.func (.func 58) [] []) [V] H=some (.int .u8 (a7u 0 1 1 l:Nat),H,refs V):=a73 hV (pre:=[]) (post:=[]) (by kernel_rfl) (by kernel_rfl) rfl rfl rfl (λV H hV=>e41 l V H hV hl)
theorem e90(l:List Nat)(V:AV)(H:a03)(hV:RA l V H)(hl:l.length<1000000):sem L.env Mf 59 [V] H=some (.int .u8 (a7u 1 0 0 l:Nat),H):=by
 have hc:=b4d hV hl (d:=false) 1 0 (a:=1) (b:=0) rfl rfl;generalize a7u 1 0 0 l=w at hc
 (refine sv Tryz.f59 ?_;simp only[Tryz.f59,gS])
 (repeat first|simp only[ww]|(apply xa;simp+decide only[go_sem,hc];rfl;kernel_rfl))
 refine a7j (vs:=[.int .u8 w]) (by simp+decide only[go_sem]) (a1y hV rfl)
theorem d7l{l:List Nat}{V:AV}{H:a03}(hV:RA l V H)(hl:l.length<1000000){d:Bool}:a0b L.env d (sem L.env Mf) (.func (.func 59) [] []) [V] H=some (.int .u8 (a7u 1 0 0 l:Nat),H,refs V):=a73 hV (pre:=[]) (post:=[]) (by kernel_rfl) (by kernel_rfl) rfl rfl rfl (λV H hV=>e90 l V H hV hl)
theorem f3f{a b:Nat}(ha:a≤1)(hb:b≤1):f5h .u8 (a:Int) (b:Int)=((a^^^b:Nat):Int)∧a^^^b≤1:=by
 have ha:a=0∨a=1:=by omega
 have hb:b=0∨b=1:=by omega
 rcases ha with rfl|rfl<;>rcases hb with rfl|rfl<;>exact⟨by decide,by decide⟩
theorem e3r(l:List Nat)(V:AV)(H:a03)(hV:RA l V H)(hl:l.length<1000000):sem L.env Mf 60 [V] H=some (.int .u8 (b7r 0 l:Nat),H):=by
 have ai:=c2q hV
 suffices hs:∃r:AV×a03,(r=(.int .u8 (b7r 0 l:Nat),H))∧sem L.env Mf 60 [V] H=some r by obtain⟨r,rfl,h3⟩:=hs;exact h3
 (refine svE Tryz.f60 ?_;simp only[Tryz.f60,gS])
 (repeat first|simp only[ww]|(apply xa;simp+decide only[go_sem,ai];rfl;kernel_rfl))
 refine a4l kp60_0 (λn F H1=>∃(i aD:Nat),n=l.length-i∧i≤l.length∧aD≤1∧F=[(3,.int .u8 aD),(6,V),(7,.int .i64 l.length),(8,.int .i64 i)]∧H1=H∧b7r aD (l.drop i)=b7r 0 l) l.length ?_ ?_
 ·exact⟨_,_,c0m hV (by simp+decide only[go_sem]<;>rfl) (.inl (by simp+decide only[go_sem])),0,0,rfl,f4m _,by omega,rfl,rfl,rfl⟩
 ·rintro n F H1 ⟨i,aD,rfl,hi,ho,rfl,rfl,a6⟩
  by_cases ah:i<l.length
  ·obtain⟨v,hv⟩:∃v,l[i]?=some v:=⟨_,z9e ah⟩
   obtain⟨p,fL,dW⟩:=c2r hV hv;have hd:l.drop i=v::l.drop (i+1):=by rw[←List.getElem_cons_drop ah,(c13.1 hv).2]
   rw[hd]at a6;have c1:(i:Int)<l.length:=by omega
   have hw:=wI1 (n:=i) (by omega);have hk:=λH=>b6b (d:=false) H v;by_cases h1:v≤1
   ·obtain⟨hx,jw⟩:=f3f ho h1;simp only[b7r,f6e h1]at a6
    (repeat first|simp only[ww]|(apply xa;simp+decide only[go_sem,c1,fL,dW,hk,h1,hx,hw];rfl;kernel_rfl))
    refine a1j (l.length-(i+1)) (by omega) ⟨_,_,c0m hV (by simp+decide only[go_sem]<;>rfl) (.inl (by simp+decide only[go_sem])),i+1,aD^^^v,rfl,ah,jw,rfl,rfl,a6⟩
   ·simp only[b7r,f4n h1]at a6
    (repeat first|simp only[ww]|(apply xa;simp+decide only[go_sem,c1,fL,dW,hk,h1];rfl;kernel_rfl))
    refine a5l (vs:=[.int .u8 2]) (r:=(_,_)) (by simp+decide only[go_sem]) (a1y hV rfl) ?_;rw[←a6];rfl
  ·obtain rfl:i=l.length:=by omega
   have c1:¬(l.length:Int)<l.length:=by omega
   rw[List.drop_length]at a6;simp only[b7r]at a6
   (repeat first|simp only[ww]|(apply xa;simp+decide only[go_sem,c1];rfl;kernel_rfl))
   refine c3w (vs:=[.int .u8 aD]) (r:=(_,_)) (by simp+decide only[go_sem]) (a1y hV rfl) ?_;rw[←a6];rfl
theorem d2u{l:List Nat}{V:AV}{H:a03}(hV:RA l V H)(hl:l.length<1000000){d:Bool}:a0b L.env d (sem L.env Mf) (.func (.func 60) [] []) [V] H=some (.int .u8 (b7r 0 l:Nat),H,refs V):=a73 hV (pre:=[]) (post:=[]) (by kernel_rfl) (by kernel_rfl) rfl rfl rfl (λV H hV=>e3r l V H hV hl)
set_option maxHeartbeats 200000000
def b81(p:Nat→Bool)(l:List Nat):Int:=match l.findIdx? p with
 |some i=>i
 |none=>-1
theorem c7o{p:Nat→Bool}{l:List Nat}{i v:Nat}(hv:l[i]?=some v)(hp:p v=true)(hb:∀(j w:Nat),j<i→l[j]?=some w→p w=false):b81 p l=i:=by
 have ah:=(c13.1 hv).1;have:l.findIdx? p=some i:=by rw[List.findIdx?_eq_some_iff_getElem];refine⟨ah,by rw[(c13.1 hv).2];exact hp,λj hj=>?_⟩;have:=hb j _ hj (z9e (by omega));simp[this]
 unfold b81;rw[this]
theorem c3p{p:Nat→Bool}{l:List Nat}(hb:∀(j w:Nat),j<l.length→l[j]?=some w→p w=false):b81 p l = -1:=by
 have:l.findIdx? p=none:=by rw[List.findIdx?_eq_none_iff];intro x hx;obtain⟨j,hj⟩:=f9g.1 hx;exact hb j x (c13.1 hj).1 hj
 unfold b81;rw[this]
theorem d3s(p:Nat→Bool)(l:List Nat):decide (0≤b81 p l)=l.any p:=by
 unfold b81;cases h:l.findIdx? p with
 |none=>
  have:=List.findIdx?_eq_none_iff.1 h;have e:l.any p=false:=by rw[List.any_eq_false];intro x hx;simp[this x hx]
  rw[e];rfl
 |some i=>obtain⟨hi,hp,_⟩:=List.findIdx?_eq_some_iff_getElem.1 h;have e:l.any p=true:=g2f.2 ⟨_,List.getElem_mem hi,hp⟩;rw[e];simp
theorem d7r(l:List Nat)(V:AV)(H:a03)(hV:RA l V H)(hl:l.length<1000000)(f:AV)(p:Nat→Bool)(jk:refs f=[])(hf:∀(d:Bool) (H:a03) (v:Nat),a0b L.env d (sem L.env Mf) f [.int .u8 v] H=some (.bool (p v),H,[])) :
 sem L.env Mf 98 [V,f] H=some (.int .i64 (b81 p l),H):=by
 have ai:=c2q hV
 suffices hs:∃r:AV×a03,(r=(.int .i64 (b81 p l),H))∧sem L.env Mf 98 [V,f] H=some r by obtain⟨r,rfl,h3⟩:=hs;exact h3
 (refine svE Tryz.f98 ?_;simp only[Tryz.f98,gS])
 (repeat first|simp only[ww]|(apply xa;simp+decide only[go_sem,ai];rfl;kernel_rfl))
 refine a4l kp98_0 (λn F H1=>∃(i:Nat),n=l.length-i∧i≤l.length∧F=[(0,V),(1,f),(7,.int .i64 l.length),(8,.int .i64 i)]∧H1=H∧∀(j w:Nat),j<i→l[j]?=some w→p w=false) l.length ?_ ?_
 ·exact⟨_,_,c0m hV (by simp+decide only[go_sem]<;>rfl) (.inl (by simp+decide only[go_sem,jk])),0,rfl,f4m _,rfl,rfl,λj w hj=>by omega⟩
 ·rintro n F H1 ⟨i,rfl,hi,rfl,rfl,hb⟩
  by_cases ah:i<l.length
  ·obtain⟨v,hv⟩:∃v,l[i]?=some v:=⟨_,z9e ah⟩
   obtain⟨q,fL,dW⟩:=c2r hV hv;have c1:(i:Int)<l.length:=by omega
   have hw:=wI1 (n:=i) (by omega);have hc:=λd H=>hf d H v;cases hpv:p v with
   |true=>
    rw[hpv]at hc
    (repeat first|simp only[ww]|(apply xa;simp+decide only[go_sem,c1,fL,dW,hc];rfl;kernel_rfl))
    refine a5l (vs:=[.int .i64 i]) (r:=(_,_)) (by simp+decide only[go_sem]) (a1y hV rfl) ?_;rw[c7o hv hpv hb];rfl
   |false=>
    rw[hpv]at hc
    (repeat first|simp only[ww]|(apply xa;simp+decide only[go_sem,c1,fL,dW,hc,hw];rfl;kernel_rfl))
    refine a1j (l.length-(i+1)) (by omega) ⟨_,_,c0m hV (by simp+decide only[go_sem]<;>rfl) (.inl (by simp+decide only[go_sem,jk])),i+1,rfl,ah,rfl,rfl,λj w hj qX=>?_⟩;by_cases iC:j=i
    ·subst iC;rw[hv]at qX;cases qX;exact hpv
    ·exact hb j w (by omega) qX
  ·obtain rfl:i=l.length:=by omega
   have c1:¬(l.length:Int)<l.length:=by omega
   (repeat first|simp only[ww]|(apply xa;simp+decide only[go_sem,c1];rfl;kernel_rfl))
   refine a5l (vs:=[.int .i64 (-1)]) (r:=(_,_)) (by simp+decide only[go_sem]) (a1y hV rfl) ?_;rw[c3p hb];rfl
theorem b91{l:List Nat}{V:AV}{H:a03}(hV:RA l V H)(hl:l.length<1000000){d:Bool}(f:AV)(p:Nat→Bool)(jk:refs f=[])(hf:∀(d:Bool) (H:a03) (v:Nat),a0b L.env d (sem L.env Mf) f [.int .u8 v] H=some (.bool (p v),H,[])) :
 a0b L.env d (sem L.env Mf) (.func (.func 98) [] []) [V,f] H=some (.int .i64 (b81 p l),H,refs V):=
 a73 hV (pre:=[]) (post:=[f]) (by kernel_rfl) (by kernel_rfl) rfl (by simp only[a07,a1u,jk,f4g]) rfl (λV H hV=>d7r l V H hV hl f p jk hf)
theorem c3c(l:List Nat)(V:AV)(H:a03)(hV:RA l V H)(hl:l.length<1000000)(f:AV)(p:Nat→Bool)(jk:refs f=[])(hf:∀(d:Bool) (H:a03) (v:Nat),a0b L.env d (sem L.env Mf) f [.int .u8 v] H=some (.bool (p v),H,[])) :
 sem L.env Mf 54 [V,f] H=some (.bool (l.any p),H):=by
 have hc:=λd=>b91 hV hl (d:=d) f p jk hf;have he:=d3s p l;generalize b81 p l=x at hc he;rw[←he]
 (refine sv Tryz.f54 ?_;simp only[Tryz.f54,gS])
 (repeat first|simp only[ww]|(apply xa;simp+decide only[go_sem,hc];rfl;kernel_rfl))
 refine a7j (vs:=[.bool _]) (by simp+decide only[go_sem]<;>rfl) (a1y hV rfl)
theorem c5u{l:List Nat}{V:AV}{H:a03}(hV:RA l V H)(hl:l.length<1000000){d:Bool}(f:AV)(p:Nat→Bool)(jk:refs f=[])(hf:∀(d:Bool) (H:a03) (v:Nat),a0b L.env d (sem L.env Mf) f [.int .u8 v] H=some (.bool (p v),H,[])) :
 a0b L.env d (sem L.env Mf) (.func (.func 54) [] []) [V,f] H=some (.bool (l.any p),H,refs V):=
 a73 hV (pre:=[]) (post:=[f]) (by kernel_rfl) (by kernel_rfl) rfl (by simp only[a07,a1u,jk,f4g]) rfl (λV H hV=>c3c l V H hV hl f p jk hf)
theorem e3x(l:List Nat)(V:AV)(H:a03)(hV:RA l V H)(hl:l.length<1000000)(w:Nat):sem L.env Mf 158 [V,.int .u8 w] H=some (.int .i64 (b81 (λv=>decide (w=v)) l),H):=by
 have ai:=c2q hV
 suffices hs:∃r:AV×a03,(r=(.int .i64 (b81 (λv=>decide (w=v)) l),H))∧sem L.env Mf 158 [V,.int .u8 w] H=some r by obtain⟨r,rfl,h3⟩:=hs;exact h3
 (refine svE Tryz.f158 ?_;simp only[Tryz.f158,gS])
 (repeat first|simp only[ww]|(apply xa;simp+decide only[go_sem,ai];rfl;kernel_rfl))
 refine a4l kp158_0 (λn F H1=>∃(i:Nat),n=l.length-i∧i≤l.length∧F=[(0,V),(1,.int .u8 w),(7,.int .i64 l.length),(8,.int .i64 i)]∧H1=H∧∀(j v:Nat),j<i→l[j]?=some v→decide (w=v)=false) l.length ?_ ?_
 ·exact⟨_,_,c0m hV (by simp+decide only[go_sem]<;>rfl) (.inl (by simp+decide only[go_sem])),0,rfl,f4m _,rfl,rfl,λj w hj=>by omega⟩
 ·rintro n F H1 ⟨i,rfl,hi,rfl,rfl,hb⟩
  by_cases ah:i<l.length
  ·obtain⟨v,hv⟩:∃v,l[i]?=some v:=⟨_,z9e ah⟩
   obtain⟨q,fL,dW⟩:=c2r hV hv;have c1:(i:Int)<l.length:=by omega
   have hw:=wI1 (n:=i) (by omega);by_cases sC:w=v
   ·subst sC
    (repeat first|simp only[ww]|(apply xa;simp+decide only[go_sem,c1,fL,dW];rfl;kernel_rfl))
    refine a5l (vs:=[.int .i64 i]) (r:=(_,_)) (by simp+decide only[go_sem]) (a1y hV rfl) ?_;rw[c7o hv (by simp) hb];rfl
   ·have c2:¬(w:Int)=v:=by omega
    (repeat first|simp only[ww]|(apply xa;simp+decide only[go_sem,c1,fL,dW,c2,hw];rfl;kernel_rfl))
    refine a1j (l.length-(i+1)) (by omega) ⟨_,_,c0m hV (by simp+decide only[go_sem]<;>rfl) (.inl (by simp+decide only[go_sem])),i+1,rfl,ah,rfl,rfl,λj u hj qY=>?_⟩;by_cases iC:j=i
    ·subst iC;rw[hv]at qY;cases qY;simpa using sC
    ·exact hb j u (by omega) qY
  ·obtain rfl:i=l.length:=by omega
   have c1:¬(l.length:Int)<l.length:=by omega
   (repeat first|simp only[ww]|(apply xa;simp+decide only[go_sem,c1];rfl;kernel_rfl))
   refine a5l (vs:=[.int .i64 (-1)]) (r:=(_,_)) (by simp+decide only[go_sem]) (a1y hV rfl) ?_;rw[c3p hb];rfl
theorem d34{l:List Nat}{V:AV}{H:a03}(hV:RA l V H)(hl:l.length<1000000){d:Bool}(w:Nat):a0b L.env d (sem L.env Mf) (.func (.func 158) [] []) [V,.int .u8 w] H=some (.int .i64 (b81 (λv=>decide (w=v)) l),H,refs V):=a73 hV (pre:=[]) (post:=[.int .u8 w]) (by kernel_rfl) (by kernel_rfl) rfl rfl rfl (λV H hV=>e3x l V H hV hl w)
theorem d7s(l:List Nat)(V:AV)(H:a03)(hV:RA l V H)(hl:l.length<1000000)(w:Nat):sem L.env Mf 140 [V,.int .u8 w] H=some (.bool (decide (w∈l)),H):=by
 have hc:=λd=>d34 hV hl (d:=d) w;have he:=d3s (λv=>decide (w=v)) l;have hm:(l.any λv=>decide (w=v))=decide (w∈l):=by rw[f9r,g2f,f4p];exact⟨λ⟨x,hx,h⟩=>by rw[of_decide_eq_true h];exact hx,λh=>⟨w,h,by simp⟩⟩
 rw[hm]at he;generalize b81 (λv=>decide (w=v)) l=x at hc he;rw[←he]
 (refine sv Tryz.f140 ?_;simp only[Tryz.f140,gS])
 (repeat first|simp only[ww]|(apply xa;simp+decide only[go_sem,hc];rfl;kernel_rfl))
 refine a7j (vs:=[.bool _]) (by simp+decide only[go_sem]<;>rfl) (a1y hV rfl)
theorem b92{l:List Nat}{V:AV}{H:a03}(hV:RA l V H)(hl:l.length<1000000){d:Bool}(w:Nat){a:Int}(ha:a=w):a0b L.env d (sem L.env Mf) (.func (.func 140) [] []) [V,.int .u8 a] H=some (.bool (decide (w∈l)),H,refs V):=by subst ha;exact a73 hV (pre:=[]) (post:=[.int .u8 w]) (by kernel_rfl) (by kernel_rfl) rfl rfl rfl (λV H hV=>d7s l V H hV hl w)
theorem d7t(l:List Nat)(V:AV)(H:a03)(hV:RA l V H)(hl:l.length<1000000):sem L.env Mf 103 [V] H=some (.bool (decide (0∈l)&&decide (1∈l)),H):=by
 have h0:=λd=>b92 hV hl (d:=d) 0 (a:=0) rfl;have h1:=λd=>b92 hV hl (d:=d) 1 (a:=1) rfl;generalize decide (1∈l)=y at h1;cases hx:decide (0∈l)with
 |true=>
  rw[hx]at h0
  (refine sv Tryz.f103 ?_;simp only[Tryz.f103,gS])
  (repeat first|simp only[ww]|(apply xa;simp+decide only[go_sem,h0,h1];rfl;kernel_rfl))
  refine a7j (vs:=[.bool y]) (by simp+decide only[go_sem]) (a1y hV rfl)
 |false=>
  rw[hx]at h0
  (refine sv Tryz.f103 ?_;simp only[Tryz.f103,gS])
  (repeat first|simp only[ww]|(apply xa;simp+decide only[go_sem,h0,h1];rfl;kernel_rfl))
  refine a7j (vs:=[.bool false]) (by simp+decide only[go_sem]) (a1y hV rfl)
theorem c9l{l:List Nat}{V:AV}{H:a03}(hV:RA l V H)(hl:l.length<1000000){d:Bool}:a0b L.env d (sem L.env Mf) (.func (.func 103) [] []) [V] H=some (.bool (decide (0∈l)&&decide (1∈l)),H,refs V):=a73 hV (pre:=[]) (post:=[]) (by kernel_rfl) (by kernel_rfl) rfl rfl rfl (λV H hV=>d7t l V H hV hl)
theorem c4a(v:Nat):sem L.env Mf 101 [.int .u8 v] []=some (.int .u8 (a2i v:Nat),[]):=by
 by_cases h:3<v
 ·have c:(3:Int)<v:=by omega
  rw[show a2i v=2 by simp[a2i,h]]
  (refine sv Tryz.f101 ?_;simp only[Tryz.f101,gS])
  (repeat first|simp only[ww]|(apply xa;simp+decide only[go_sem,c];rfl;kernel_rfl))
  (apply fqb;simp+decide only[go_sem]<;>rfl)
 ·have c:¬(3:Int)<v:=by omega
  rw[show a2i v=v by simp[a2i,h]]
  (refine sv Tryz.f101 ?_;simp only[Tryz.f101,gS])
  (repeat first|simp only[ww]|(apply xa;simp+decide only[go_sem,c];rfl;kernel_rfl))
  (apply fqb;simp+decide only[go_sem]<;>rfl)
theorem d7v(v:Nat):sem L.env Mf 100 [.int .u8 v] []=some (.bool (decide (a2i v=2)),[]):=by
 have hc:∀(d:Bool) H,a0b L.env d (sem L.env Mf) (.func (.func 101) [] []) [.int .u8 v] H=some (.int .u8 (a2i v:Nat),H,[]):=λd H=>a04 (by kernel_rfl) (by kernel_rfl) rfl rfl (c4a v) rfl;have e:decide (((a2i v:Nat):Int)=2)=decide (a2i v=2):=by rw[decide_eq_decide];omega
 generalize a2i v=w at hc e
 (refine sv Tryz.f100 ?_;simp only[Tryz.f100,gS])
 (repeat first|simp only[ww]|(apply xa;simp+decide only[go_sem,hc,e];rfl;kernel_rfl))
 (apply fqb;simp+decide only[go_sem]<;>rfl)
theorem d7u(v:Nat):sem L.env Mf 102 [.int .u8 v] []=some (.bool (decide (v≠3)),[]):=by
 have e:(!decide ((v:Int)=3))=decide (v≠3):=by
  by_cases h:v=3
  ·subst h;rfl
  ·have:¬(v:Int)=3:=by omega
   simp[h,this]
 (refine sv Tryz.f102 ?_;simp only[Tryz.f102,gS])
 (repeat first|simp only[ww]|(apply xa;simp+decide only[go_sem,e];rfl;kernel_rfl))
 (apply fqb;simp+decide only[go_sem]<;>rfl)
theorem e3y(l:List Nat)(V:AV)(H:a03)(hV:RA l V H)(hl:l.length<1000000):sem L.env Mf 63 [V] H=some (.int .u8 (e17 l:Nat),H):=by
 have h1:∀(d:Bool) (H:a03) (v:Nat),a0b L.env d (sem L.env Mf) (.func (.func 100) [] []) [.int .u8 v] H=some (.bool (decide (a2i v=2)),H,[]):=λd H v=>a04 (by kernel_rfl) (by kernel_rfl) rfl rfl (d7v v) rfl;have h2:∀(d:Bool) (H:a03) (v:Nat),a0b L.env d (sem L.env Mf) (.func (.func 102) [] []) [.int .u8 v] H=some (.bool (decide (v≠3)),H,[]):=λd H v=>a04 (by kernel_rfl) (by kernel_rfl) rfl rfl (d7u v) rfl;have c1:=λd=>b91 hV hl (d:=d) _ (λv=>decide (v≠3)) rfl h2;have c2:=λd=>c5u hV hl (d:=d) _ (λv=>decide (a2i v=2)) rfl h1;have c3:=λd=>c9l hV hl (d:=d);unfold e17;unfold b81 at c1;cases hf:l.findIdx? (λv=>decide (v≠3))with
 |none=>
  rw[hf]at c1;dsimp only at c1⊢
  (refine sv Tryz.f63 ?_;simp only[Tryz.f63,gS])
  (repeat first|simp only[ww]|(apply xa;simp+decide only[go_sem,c1];rfl;kernel_rfl))
  refine a7j (vs:=[.int .u8 3]) (by simp+decide only[go_sem]) (a1y hV rfl)
 |some i=>
  rw[hf]at c1;dsimp only at c1⊢;have hi:=(List.findIdx?_eq_some_iff_getElem.1 hf).1;obtain⟨v,hv⟩:∃v,l[i]?=some v:=⟨_,z9e hi⟩
  obtain⟨q,fL,dW⟩:=c2r hV hv;have hg:l.getD i 0=v:=by rw[List.getD,hv];rfl
  have c0:¬(i:Int)<0:=by omega
  rw[hg];generalize(decide (0∈l)&&decide (1∈l))=x at c3⊢;generalize(l.any λv=>decide (a2i v=2))=y at c2⊢;cases x with
  |true=>
   (refine sv Tryz.f63 ?_;simp only[Tryz.f63,gS])
   (repeat first|simp only[ww]|(apply xa;simp+decide only[go_sem,c1,c2,c3,c0];rfl;kernel_rfl))
   refine a7j (vs:=[.int .u8 2]) (by simp+decide only[go_sem]) (a1y hV rfl)
  |false=>cases y with
   |true=>
    (refine sv Tryz.f63 ?_;simp only[Tryz.f63,gS])
    (repeat first|simp only[ww]|(apply xa;simp+decide only[go_sem,c1,c2,c3,c0];rfl;kernel_rfl))
    refine a7j (vs:=[.int .u8 2]) (by simp+decide only[go_sem]) (a1y hV rfl)
   |false=>
    (refine sv Tryz.f63 ?_;simp only[Tryz.f63,gS])
    (repeat first|simp only[ww]|(apply xa;simp+decide only[go_sem,c1,c2,c3,c0,fL,dW];rfl;kernel_rfl))
    refine a7j (vs:=[.int .u8 v]) (by simp+decide only[go_sem]) (a1y hV rfl)
theorem d37{l:List Nat}{V:AV}{H:a03}(hV:RA l V H)(hl:l.length<1000000){d:Bool}:a0b L.env d (sem L.env Mf) (.func (.func 63) [] []) [V] H=some (.int .u8 (e17 l:Nat),H,refs V):=a73 hV (pre:=[]) (post:=[]) (by kernel_rfl) (by kernel_rfl) rfl rfl rfl (λV H hV=>e3y l V H hV hl)
theorem e0x{l:List Nat}{V:AV}{H:a03}(h:RA l V H):a0o V=[]∨a0o V=[0]:=by
 cases h with
 |imm r=>exact .inl (by simp only[go_sem])
 |blk c af hf=>exact .inr rfl
theorem e37{l:List Nat}{V:AV}{H:a03}(h:RA l V H){i v:Nat}(hi:l[i]?=some v):∃p,a10 L.env (a01 H) 36 V (.int .i64 i)=some p∧a7l L.env (a01 H) 54 p=some (.int .u8 v)∧a0o p=a0o V:=by
 have ah:=(c13.1 hi).1;cases h with
 |imm r=>exact⟨_,by simp+decide only[go_sem,hi,ah]<;>rfl,by simp+decide only[go_sem,hi,ah],by simp+decide only[go_sem]⟩
 |blk c af hf=>
  have hg:(l.map u8R++af)[i]?=some [.int .u8 v]:=by rw[f6d (by simpa using ah),f4q,hi];rfl
  have bR:i<(l.map u8R++af).length:=by simp;omega
  exact⟨_,by simp+decide only[go_sem,hg,ah,bR]<;>rfl,by simp+decide only[go_sem,hg,ah,bR],by simp+decide only[go_sem]⟩
theorem b1x(k:Nat)(hk:k<16)(l:List Nat)(V:AV)(H:a03)(hV:RA l V H)(hl:l.length<1000000):sem L.env Mf 25 [.int .u8 k,V] H=some (.int .u8 (a4d k l:Nat),H):=by
 have hf:=λd H=>b0k (d:=d) H k hk;have ai:=c2q hV;by_cases aG:l.length<a1e k
 ·have c1:(l.length:Int)<a1e k:=by omega
  rw[show a4d k l=2 by simp[a4d,aG]]
  (refine sv Tryz.f25 ?_;simp only[Tryz.f25,gS])
  (repeat first|simp only[ww]|(apply xa;simp+decide only[go_sem,hf,c1,ai];rfl;kernel_rfl))
  refine a7j (vs:=[.int .u8 2]) (by simp+decide only[go_sem]) (a1y hV rfl)
 have c1:¬(l.length:Int)<a1e k:=by omega
 by_cases jS:a1m k<l.length
 ·have c2:(a1m k:Int)<l.length:=by omega
  rw[show a4d k l=2 by simp[a4d,jS]]
  (refine sv Tryz.f25 ?_;simp only[Tryz.f25,gS])
  (repeat first|simp only[ww]|(apply xa;simp+decide only[go_sem,hf,c1,c2,ai];rfl;kernel_rfl))
  refine a7j (vs:=[.int .u8 2]) (by simp+decide only[go_sem]) (a1y hV rfl)
 have c2:¬(a1m k:Int)<l.length:=by omega
 rw[show a4d k l=a5f k l by unfold a4d;rw[f4n (by omega)]];have lo:a1e k≤l.length:=by omega
 clear aG jS;have g:∀(i:Nat) (j:Int),j=i→i<a1e k→∃v p,l.getD i 2=v∧a10 L.env (a01 H) 36 V (.int .i64 j)=some p∧a7l L.env (a01 H) 54 p=some (.int .u8 v)∧a0o p=a0o V:=by
  intro i j hj hi;subst hj;obtain⟨v,hv⟩:∃v,l[i]?=some v:=⟨_,z9e (by omega)⟩
  obtain⟨p,h1,h2,h3⟩:=e37 hV hv;exact⟨v,p,by rw[List.getD,hv];rfl,h1,h2,h3⟩
 have ca:=λ(d:Bool)=>d3d hV hl (d:=d);have co:=λ(d:Bool)=>d7l hV hl (d:=d);have cx:=λ(d:Bool)=>d2u hV hl (d:=d);have cb:=λ(d:Bool)=>d37 hV hl (d:=d);have cn:=λ(d:Bool) (H:a03) (v:Nat)=>c37 (d:=d) H v;have cr:=λ(d:Bool) (H:a03) (v:Nat)=>a89 (d:=d) H v;have cm:=λ(d:Bool) (H:a03) (s a b:Nat)=>d30 (d:=d) H s a b;have ct:=λ(d:Bool) (H:a03) (a b:Nat)=>d2v (d:=d) H a b;have kI:k=0∨k=1∨k=2∨k=3∨k=4∨k=5∨k=6∨k=7∨k=8∨k=9∨k=10∨k=11∨k=12∨k=13∨k=14∨k=15:=by omega
 (refine sv Tryz.f25 ?_;simp only[Tryz.f25,gS])
 (repeat first|simp only[ww]|(apply xa;simp+decide only[go_sem,hf,c1,c2,ai];rfl;kernel_rfl))
 rcases kI with rfl|rfl|rfl|rfl|rfl|rfl|rfl|rfl|rfl|rfl|rfl|rfl|rfl|rfl|rfl|rfl
 ·rw[show a5f 0 l=2 from rfl]
  (repeat first|simp only[ww]|(apply xa;simp+decide only[go_sem];rfl;kernel_rfl))
  exact a7j (vs:=[.int .u8 _]) (by simp+decide only[go_sem]<;>rfl) (a1y hV rfl)
 ·rw[show a5f 1 l=0 from rfl]
  (repeat first|simp only[ww]|(apply xa;simp+decide only[go_sem];rfl;kernel_rfl))
  exact a7j (vs:=[.int .u8 _]) (by simp+decide only[go_sem]<;>rfl) (a1y hV rfl)
 ·rw[show a5f 2 l=1 from rfl]
  (repeat first|simp only[ww]|(apply xa;simp+decide only[go_sem];rfl;kernel_rfl))
  exact a7j (vs:=[.int .u8 _]) (by simp+decide only[go_sem]<;>rfl) (a1y hV rfl)
 ·obtain⟨v0,p0,e0,a0,b0,t0⟩:=g 0 0 rfl (by decide);rw[show a5f 3 l=a4t (l.getD 0 2)from rfl,e0]
  (repeat first|simp only[ww]|(apply xa;simp+decide only[go_sem,cr,a0,b0];rfl;kernel_rfl))
  exact a7j (vs:=[.int .u8 _]) (by simp+decide only[go_sem]<;>rfl) (a1y hV rfl)
 ·obtain⟨v0,p0,e0,a0,b0,t0⟩:=g 0 0 rfl (by decide);rw[show a5f 4 l=a9a (l.getD 0 2)from rfl,e0]
  (repeat first|simp only[ww]|(apply xa;simp+decide only[go_sem,cn,a0,b0];rfl;kernel_rfl))
  exact a7j (vs:=[.int .u8 _]) (by simp+decide only[go_sem]<;>rfl) (a1y hV rfl)
 ·rw[show a5f 5 l=a7u 0 1 1 l from rfl]
  (repeat first|simp only[ww]|(apply xa;simp+decide only[go_sem,ca];rfl;kernel_rfl))
  exact a7j (vs:=[.int .u8 _]) (by simp+decide only[go_sem]<;>rfl) (a1y hV rfl)
 ·rw[show a5f 6 l=a9a (a7u 0 1 1 l)from rfl]
  (repeat first|simp only[ww]|(apply xa;simp+decide only[go_sem,ca,cn];rfl;kernel_rfl))
  exact a7j (vs:=[.int .u8 _]) (by simp+decide only[go_sem]<;>rfl) (a1y hV rfl)
 ·rw[show a5f 7 l=a7u 1 0 0 l from rfl]
  (repeat first|simp only[ww]|(apply xa;simp+decide only[go_sem,co];rfl;kernel_rfl))
  exact a7j (vs:=[.int .u8 _]) (by simp+decide only[go_sem]<;>rfl) (a1y hV rfl)
 ·rw[show a5f 8 l=a9a (a7u 1 0 0 l)from rfl]
  (repeat first|simp only[ww]|(apply xa;simp+decide only[go_sem,co,cn];rfl;kernel_rfl))
  exact a7j (vs:=[.int .u8 _]) (by simp+decide only[go_sem]<;>rfl) (a1y hV rfl)
 ·rw[show a5f 9 l=b7r 0 l from rfl]
  (repeat first|simp only[ww]|(apply xa;simp+decide only[go_sem,cx];rfl;kernel_rfl))
  exact a7j (vs:=[.int .u8 _]) (by simp+decide only[go_sem]<;>rfl) (a1y hV rfl)
 ·rw[show a5f 10 l=a9a (b7r 0 l)from rfl]
  (repeat first|simp only[ww]|(apply xa;simp+decide only[go_sem,cx,cn];rfl;kernel_rfl))
  exact a7j (vs:=[.int .u8 _]) (by simp+decide only[go_sem]<;>rfl) (a1y hV rfl)
 ·obtain⟨v0,p0,e0,a0,b0,t0⟩:=g 0 0 rfl (by decide);obtain⟨v1,p1,e1,a1,b1,t1⟩:=g 1 1 rfl (by decide);obtain⟨v2,p2,e2,a2,b2,t2⟩:=g 2 2 rfl (by decide);rw[show a5f 11 l=c0v (l.getD 0 2) (l.getD 1 2) (l.getD 2 2)from rfl,e0,e1,e2];rcases e0x hV with htp|htp
  ·(repeat first|simp only[ww]|(apply xa;simp+decide only[go_sem,cm,a0,b0,a1,b1,a2,b2,t0,t1,t2,htp];rfl;kernel_rfl))
   exact a7j (vs:=[.int .u8 _]) (by simp+decide only[go_sem]<;>rfl) (a1y hV rfl)
  ·(repeat first|simp only[ww]|(apply xa;simp+decide only[go_sem,cm,a0,b0,a1,b1,a2,b2,t0,t1,t2,htp];rfl;kernel_rfl))
   exact a7j (vs:=[.int .u8 _]) (by simp+decide only[go_sem]<;>rfl) (a1y hV rfl)
 ·obtain⟨v0,p0,e0,a0,b0,t0⟩:=g 0 0 rfl (by decide);obtain⟨v1,p1,e1,a1,b1,t1⟩:=g 1 1 rfl (by decide);rw[show a5f 12 l=c5o (l.getD 0 2) (l.getD 1 2)from rfl,e0,e1];rcases e0x hV with htp|htp
  ·(repeat first|simp only[ww]|(apply xa;simp+decide only[go_sem,ct,a0,b0,a1,b1,t0,t1,htp];rfl;kernel_rfl))
   exact a7j (vs:=[.int .u8 _]) (by simp+decide only[go_sem]<;>rfl) (a1y hV rfl)
  ·(repeat first|simp only[ww]|(apply xa;simp+decide only[go_sem,ct,a0,b0,a1,b1,t0,t1,htp];rfl;kernel_rfl))
   exact a7j (vs:=[.int .u8 _]) (by simp+decide only[go_sem]<;>rfl) (a1y hV rfl)
 ·rw[show a5f 13 l=e17 l from rfl]
  (repeat first|simp only[ww]|(apply xa;simp+decide only[go_sem,cb];rfl;kernel_rfl))
  exact a7j (vs:=[.int .u8 _]) (by simp+decide only[go_sem]<;>rfl) (a1y hV rfl)
 ·rw[show a5f 14 l=2 from rfl]
  (repeat first|simp only[ww]|(apply xa;simp+decide only[go_sem];rfl;kernel_rfl))
  exact a7j (vs:=[.int .u8 _]) (by simp+decide only[go_sem]<;>rfl) (a1y hV rfl)
 ·rw[show a5f 15 l=2 from rfl]
  (repeat first|simp only[ww]|(apply xa;simp+decide only[go_sem];rfl;kernel_rfl))
  exact a7j (vs:=[.int .u8 _]) (by simp+decide only[go_sem]<;>rfl) (a1y hV rfl)
theorem c9j{l:List Nat}{V:AV}{H:a03}(hV:RA l V H)(hl:l.length<1000000){d:Bool}(k:Nat)(hk:k<16):a0b L.env d (sem L.env Mf) (.func (.func 25) [] []) [.int .u8 k,V] H=some (.int .u8 (a4d k l:Nat),H,refs V):=a73 hV (pre:=[.int .u8 k]) (post:=[]) (by kernel_rfl) (by kernel_rfl) rfl rfl rfl (λV H hV=>b1x k hk l V H hV hl)
theorem a3k(π:Nat→Option Nat)(l:List Nat):(l.map u8R).map (λr=>r.map (ren π))=l.map u8R:=a0c π (a1r l)
theorem a37(l:List Nat):(l.map u8R).flatMap a0l=[]:=a0f (a1r l)
theorem d6t(c:Cir)(hc:c.wf)(p:Pat)(hp:PatOk c.nodes p)(N0:List Nat)(hN:N0.length=c.nodes.length) :
 sem L.env Mf 23 [.agg [sl c.nc (c.nodes.map Nd.enc),sl c.mc (c.names.map a13),.nilslice,sl c.oc (c.outs.map a0a),.slice 0 0 c.nodes.length (some c.nodes.length)],.agg p.enc] [some (.row 1 (N0.map u8R))]=some (.tuple [],[some (.row 1 ((a1l (a1l N0 (kinds c.nodes 0) p.ins) (kinds c.nodes 14) p.sts).map u8R))]):=by
 have cG:=hc.len;obtain⟨r0,e3⟩:=a3b (kinds c.nodes 0);obtain⟨r1,e4⟩:=a3b (kinds c.nodes 14);have hk0:=a3h c.nodes 0;have gp:=a3h c.nodes 14;have hi:=λ(d:Bool) H=>a8x (d:=d) H c (by omega);have hs:=λ(d:Bool) H=>a5w (d:=d) H c (by omega);have ke:=hp.ins;have fF:=hp.sts;rw[e3]at hi;rw[e4]at hs;have fu:Pat.enc p=[sl p.ic (p.ins.map u8R),sl p.sc (p.sts.map u8R)]:=rfl;rw[fu];simp only[Cir.enc]at hi hs
 suffices hs:∃r:AV×a03,(r=(.tuple [],[some (.row 1 ((a1l (a1l N0 (kinds c.nodes 0) p.ins) (kinds c.nodes 14) p.sts).map u8R))]))∧sem L.env Mf 23 [.agg [sl c.nc (c.nodes.map Nd.enc),sl c.mc (c.names.map a13),.nilslice,sl c.oc (c.outs.map a0a),.slice 0 0 c.nodes.length (some c.nodes.length)],.agg [sl p.ic (p.ins.map u8R),sl p.sc (p.sts.map u8R)]] [some (.row 1 (N0.map u8R))]=some r by obtain⟨r,rfl,h3⟩:=hs;exact h3
 (refine svE Tryz.f23 ?_;simp only[Tryz.f23,gS])
 (repeat first|simp only[ww]|(apply xa;simp+decide only[go_sem,hi];rfl;kernel_rfl))
 refine a0q (σ:=Nat) kp23_0 (λi=>[(2,.ptr 1 0 0),(3,.ptr 2 0 0),(10,sl r0 ((kinds c.nodes 0).map a0a)),(11,.int .i64 (kinds c.nodes 0).length),(12,.int .i64 i)])
  (λi=>[some (.row 1 ((a1l N0 ((kinds c.nodes 0).take i) (p.ins.take i)).map u8R)),some (.row 5 [[sl c.nc (c.nodes.map Nd.enc),sl c.mc (c.names.map a13),.nilslice,sl c.oc (c.outs.map a0a),.slice 0 0 c.nodes.length (some c.nodes.length)]]),some (.row 2 [[sl p.ic (p.ins.map u8R),sl p.sc (p.sts.map u8R)]])]) (λi=>(kinds c.nodes 0).length-i) (λi=>i≤(kinds c.nodes 0).length) 0 ?_ (f4m _) ?_
 ·rw[f6b,f6b,show a1l N0 [] []=N0 from rfl]
  (simp+decide only[go_sem,a02,a00,a3k,a37]<;>rfl)<;>rfl
 ·intro i hi;have aQ:=a2g ((kinds c.nodes 0).take i) (p.ins.take i) N0;rw[hN]at aQ;by_cases ah:i<(kinds c.nodes 0).length
  ·obtain⟨n,hn⟩:∃n,(kinds c.nodes 0)[i]?=some n:=⟨_,z9e ah⟩
   obtain⟨w,hw⟩:∃w,p.ins[i]?=some w:=⟨_,z9e (by omega)⟩
   have bp:=(a5i hn).1;have az:=a6u (nets:=N0) hn hw;have c1:(i:Int)<(kinds c.nodes 0).length:=by omega
   have bz:=wI1 (n:=i) (by omega);have eI:i<p.ins.length:=by omega
   generalize a1l N0 ((kinds c.nodes 0).take i) (p.ins.take i)=N at az aQ;obtain⟨w0,bM⟩:∃w,N[n]?=some w:=⟨_,z9e (by omega)⟩
   have jD:(N.map u8R).set n [AV.int .u8 w]=(N.set n w).map u8R:=by rw[f9n];rfl
   (repeat first|simp only[ww]|(apply xa;simp+decide only[go_sem,c1,ah,hn,hw,bp,bz,eI,aQ,bM,jD];rfl;kernel_rfl))
   refine a21 (i+1) ?_ (by omega) (by omega);rw[az]
   (simp+decide only[go_sem,a02,a00,a3k,a37]<;>rfl)<;>rfl
  have cY:i=(kinds c.nodes 0).length:=by omega
  subst cY;have c1:¬((kinds c.nodes 0).length:Int)<(kinds c.nodes 0).length:=by omega
  rw[f6i,f4l (by omega)]at aQ⊢;generalize a1l N0 (kinds c.nodes 0) p.ins=N1 at aQ⊢
  (repeat first|simp only[ww]|(apply xa;simp+decide only[go_sem,c1,hs];rfl;kernel_rfl))
  refine a0q (σ:=Nat) kp23_2 (λi=>[(2,.ptr 1 0 0),(3,.ptr 2 0 0),(29,sl r1 ((kinds c.nodes 14).map a0a)),(30,.int .i64 (kinds c.nodes 14).length),(31,.int .i64 i)])
   (λi=>[some (.row 1 ((a1l N1 ((kinds c.nodes 14).take i) (p.sts.take i)).map u8R)),some (.row 5 [[sl c.nc (c.nodes.map Nd.enc),sl c.mc (c.names.map a13),.nilslice,sl c.oc (c.outs.map a0a),.slice 0 0 c.nodes.length (some c.nodes.length)]]),some (.row 2 [[sl p.ic (p.ins.map u8R),sl p.sc (p.sts.map u8R)]])]) (λi=>(kinds c.nodes 14).length-i) (λi=>i≤(kinds c.nodes 14).length) 0 ?_ (f4m _) ?_
  ·rw[f6b,f6b,show a1l N1 [] []=N1 from rfl]
   (simp+decide only[go_sem,a02,a00,a3k,a37]<;>rfl)<;>rfl
  ·intro i hi;have d9:=a2g ((kinds c.nodes 14).take i) (p.sts.take i) N1;rw[aQ]at d9;by_cases ah:i<(kinds c.nodes 14).length
   ·obtain⟨n,hn⟩:∃n,(kinds c.nodes 14)[i]?=some n:=⟨_,z9e ah⟩
    obtain⟨w,hw⟩:∃w,p.sts[i]?=some w:=⟨_,z9e (by omega)⟩
    have bp:=(a5i hn).1;have az:=a6u (nets:=N1) hn hw;have c1:(i:Int)<(kinds c.nodes 14).length:=by omega
    have bz:=wI1 (n:=i) (by omega);have eI:i<p.sts.length:=by omega
    generalize a1l N1 ((kinds c.nodes 14).take i) (p.sts.take i)=N at az d9;obtain⟨w0,bM⟩:∃w,N[n]?=some w:=⟨_,z9e (by omega)⟩
    have jD:(N.map u8R).set n [AV.int .u8 w]=(N.set n w).map u8R:=by rw[f9n];rfl
    (repeat first|simp only[ww]|(apply xa;simp+decide only[go_sem,c1,ah,hn,hw,bp,bz,eI,d9,bM,jD];rfl;kernel_rfl))
    refine a21 (i+1) ?_ (by omega) (by omega);rw[az]
    (simp+decide only[go_sem,a02,a00,a3k,a37]<;>rfl)<;>rfl
   have cY:i=(kinds c.nodes 14).length:=by omega
   subst cY;have c1:¬((kinds c.nodes 14).length:Int)<(kinds c.nodes 14).length:=by omega
   rw[f6i,f4l (by omega)]
   (repeat first|simp only[ww]|(apply xa;simp+decide only[go_sem,c1];rfl;kernel_rfl))
   refine c3w (vs:=[]) (r:=(_,[_])) (by simp+decide only[go_sem]) ?_ rfl;simp+decide only[go_sem,a3k]<;>rfl
def a6m:List Nat→AV
 | []=>.nilslice
 |v::r=>.islice ((v::r).map u8R) (some (r.length+1))
theorem b54(l:List Nat):∃r:Rep,a6m l=sl r (l.map u8R):=by
 cases l with
 |nil=>exact⟨none,rfl⟩
 |cons v r=>exact⟨some (some (r.length+1)),rfl⟩
theorem a3p(l:List Nat):refs (a6m l)=[]:=by cases l<;>rfl
def b4l(o x:List Nat):AV:=.agg [a6m o,a6m x]
theorem a9p(o x:List Nat):refs (b4l o x)=[]:=by simp only[b4l,a11,a07,a3p,a1u,f4g]
theorem d1f(c:Cir)(nets:List Nat)(hl:nets.length=c.nodes.length)(hv:∀v∈nets,v≤3)(n v:Nat)(hn:nets[n]?=some v):sem L.env Mf 64 [.agg [sl c.nc (c.nodes.map Nd.enc),sl c.mc (c.names.map a13),.nilslice,sl c.oc (c.outs.map a0a),.slice 0 0 c.nodes.length (some c.nodes.length)],.int .i64 n] [some (.row 1 (nets.map u8R))]=some (.int .u8 v,[some (.row 1 (nets.map u8R))]):=by
 have ah:=(c13.1 hn).1;have h0:¬(n:Int)<0:=by omega
 have h1:¬(c.nodes.length:Int)≤n:=by omega
 have h2:n<c.nodes.length:=by omega
 have hc:∀(d:Bool) H,a0b L.env d (sem L.env Mf) (.func (.func 101) [] []) [.int .u8 v] H=some (.int .u8 v,H,[]):=λd H=>by have:=a04 (E:=L.env) (ag:=d) (call:=sem L.env Mf) (fs:=[]) (cs:=[]) (ar:=[.int .u8 v]) (v:=.int .u8 (a2i v:Nat)) (H:=H) (g:=101) (by kernel_rfl) (by kernel_rfl) rfl rfl (c4a v) rfl;rw[c8c (hv v (c11 hn))]at this;exact this
 (refine sv Tryz.f64 ?_;simp only[Tryz.f64,gS])
 (repeat first|simp only[ww]|(apply xa;simp+decide only[go_sem,h0,h1,h2,hl,hn,hc];rfl;kernel_rfl))
 refine a7j (vs:=[.int .u8 v]) (by simp+decide only[go_sem]) ?_;simp+decide only[go_sem,a3k]<;>rfl
theorem c54{d:Bool}{H:a03}{b:Nat}(c:Cir)(nets:List Nat)(hl:nets.length=c.nodes.length)(hv:∀v∈nets,v≤3)(n v:Nat)(hn:nets[n]?=some v)(hb:a01 H b=some (.row 1 (nets.map u8R))) :
 a0b L.env d (sem L.env Mf) (.func (.func 64) [] []) [.agg [sl c.nc (c.nodes.map Nd.enc),sl c.mc (c.names.map a13),.nilslice,sl c.oc (c.outs.map a0a),.slice b 0 c.nodes.length (some c.nodes.length)],.int .i64 n] H=some (.int .u8 v,H,[b]):=
 a2e (fs:=[]) (cs:=[]) (ar:=[.agg [sl c.nc (c.nodes.map Nd.enc),sl c.mc (c.names.map a13),.nilslice,sl c.oc (c.outs.map a0a),.slice b 0 c.nodes.length (some c.nodes.length)],.int .i64 n]) (by kernel_rfl) (by kernel_rfl) rfl hb (a0r (a1r nets)) (FlatO.row (a1r nets)) (by simp only[e14,f4g,go_sem]) (au:=[.agg [sl c.nc (c.nodes.map Nd.enc),sl c.mc (c.names.map a13),.nilslice,sl c.oc (c.outs.map a0a),.slice 0 0 c.nodes.length (some c.nodes.length)],.int .i64 n]) (by simp only[e14,f4g,c10,f4h,c5h,a20,b8h,a9n,d1z]) (d1f c nets hl hv n v hn) rfl
theorem d9i(n:Nat)(aa:List (List AV))(hf:FlatR aa):sem L.env Mf 65 [.slice 0 0 n none] [some (.row 1 aa)]=some (.slice 0 0 n (some n),[some (.row 1 aa)]):=by
 have h1:=λπ=>a0c π hf
 (refine sv Tryz.f65 ?_;simp only[Tryz.f65,gS])
 (repeat first|simp only[ww]|(apply xa;simp+decide only[go_sem];rfl;kernel_rfl))
 (apply fqb;simp+decide only[go_sem,h1]<;>rfl)
theorem b0l{d:Bool}{H:a03}{b n:Nat}{aa:List (List AV)}(hf:FlatR aa)(hb:a01 H b=some (.row 1 aa)):a0b L.env d (sem L.env Mf) (.func (.func 65) [] []) [.slice b 0 n none] H=some (.slice b 0 n (some n),H,[b]):=by have h:=a60 (E:=L.env) (ag:=d) (call:=sem L.env Mf) (g:=65) (fs:=[]) (cs:=[]) (ar:=[.slice b 0 n none]) (H:=H) (b:=b) (by kernel_rfl) (by kernel_rfl) rfl hb (a0r hf) (FlatO.row hf) rfl (au:=[AV.slice 0 0 n none]) (by simp only[e14,f4g,c10,f4h,a20]) (d9i n aa hf) (FlatO.row hf) (b1d b 0 _ n _);rw[a8k hb]at h;exact h
theorem d4z:sem L.env Mf 65 [.nilslice] []=some (.nilslice,[]):=by
 (refine sv Tryz.f65 ?_;simp only[Tryz.f65,gS])
 (repeat first|simp only[ww]|(apply xa;simp+decide only[go_sem];rfl;kernel_rfl))
 (apply fqb;simp+decide only[go_sem]<;>rfl)
theorem b7b{d:Bool}(H:a03):a0b L.env d (sem L.env Mf) (.func (.func 65) [] []) [.nilslice] H=some (.nilslice,H,[]):=a04 (by kernel_rfl) (by kernel_rfl) rfl rfl d4z rfl
def a3y(nodes:List Nd)(nets:List Nat):List Nat:=(kinds nodes 14).map λn=>a4t (nets.getD ((a15 nodes n).getD 0 0) 0)
def a1q(outs nets:List Nat):List Nat:=outs.map λn=>nets.getD n 0
theorem e2m(c:Cir)(hc:c.wf)(hO:c.outs≠[])(nets:List Nat)(hl:nets.length=c.nodes.length)(hv:∀v∈nets,v≤3):sem L.env Mf 26 [.agg [sl c.nc (c.nodes.map Nd.enc),sl c.mc (c.names.map a13),.nilslice,sl c.oc (c.outs.map a0a),.slice 0 0 c.nodes.length (some c.nodes.length)]] [some (.row 1 (nets.map u8R))]=some (b4l (a1q c.outs nets) (a3y c.nodes nets),[some (.row 1 (nets.map u8R))]):=by
 have cG:=hc.len;have bW:=hc.outl;obtain⟨r1,e4⟩:=a3b (kinds c.nodes 14);have gp:=a3h c.nodes 14;have hs:=λ(d:Bool) H=>a5w (d:=d) H c (by omega);rw[e4]at hs;simp only[Cir.enc]at hs;have cW:=λ(d:Bool) (H:a03) (n v:Nat) (hn:nets[n]?=some v) (hb:a01 H 0=some (.row 1 (nets.map u8R)))=>c54 (d:=d) (H:=H) (b:=0) c nets hl hv n v hn hb;have kU:=a1r nets;have n1:=a0f kU;have n2:=λπ=>a0c π kU
 suffices hs:∃r:AV×a03,(r=(b4l (a1q c.outs nets) (a3y c.nodes nets),[some (.row 1 (nets.map u8R))]))∧sem L.env Mf 26 [.agg [sl c.nc (c.nodes.map Nd.enc),sl c.mc (c.names.map a13),.nilslice,sl c.oc (c.outs.map a0a),.slice 0 0 c.nodes.length (some c.nodes.length)]] [some (.row 1 (nets.map u8R))]=some r by obtain⟨r,rfl,h3⟩:=hs;exact h3
 (refine svE Tryz.f26 ?_;simp only[Tryz.f26,gS])
 generalize hNR:nets.map u8R=NR at cW kU n1 n2
 (repeat first|simp only[ww]|(apply xa;simp+decide only[go_sem];rfl;kernel_rfl))
 refine a4l kp26_0 (λn F H=>∃i,n=c.outs.length-i∧i≤c.outs.length∧F=[(1,.ptr 1 0 0),(2,.ptr 2 0 0),(3,.ptr 3 0 0),(12,sl c.oc (c.outs.map a0a)),(13,.int .i64 c.outs.length),(14,.int .i64 i)]∧H=[some (.row 1 NR),some (.row 5 [[sl c.nc (c.nodes.map Nd.enc),sl c.mc (c.names.map a13),.nilslice,sl c.oc (c.outs.map a0a),.slice 0 0 c.nodes.length (some c.nodes.length)]]),some (.row 2 [[.nilslice,.nilslice]]),some (.row 2 [[grV 4 ((a1q (c.outs.take i) nets).map u8R),.nilslice]])]++grH 1 ((a1q (c.outs.take i) nets).map u8R)) c.outs.length ?_ ?_
 ·refine⟨_,_,?_,0,rfl,f4m _,rfl,rfl⟩;rw[f6b,show a1q [] nets=[]from rfl]
  (simp+decide only[go_sem,a02,a00,a0g,a0h,f4h,n1,n2]<;>rfl)<;>rfl
 ·rintro n F H ⟨i,rfl,hi,rfl,rfl⟩
  have eM:((a1q (c.outs.take i) nets).map u8R).length=i:=by simp[a1q];omega
  have ek:=a1r (a1q (c.outs.take i) nets);by_cases ah:i<c.outs.length
  ·obtain⟨o,ho⟩:∃o,c.outs[i]?=some o:=⟨_,z9e ah⟩
   have m7:=hc.outs o (c11 ho);obtain⟨v,lq⟩:∃v,nets[o]?=some v:=⟨_,z9e (by omega)⟩
   have c1:(i:Int)<c.outs.length:=by omega
   have bz:=wI1 (n:=i) (by omega);have eD:(a1q (c.outs.take (i+1)) nets).map u8R=(a1q (c.outs.take i) nets).map u8R++[[.int .u8 v]]:=by unfold a1q;rw[a0v ho,f6c,f6c];simp only[c10,f4h,List.getD,lq,f9l];rfl
   have dh:=λ(d:Bool) (H:a03) (hb:a01 H 0=some (.row 1 NR))=>cW d H o v lq hb;generalize(a1q (c.outs.take i) nets).map u8R=T at eM ek eD;have db:=a0f ek;have eo:=λπ=>a0c π ek;cases T with
   |nil=>
    have dh:=λ(d:Bool) (x1 x2 x3:Option AObj)=>dh d [some (.row 1 NR),x1,x2,x3] rfl
    (repeat first|simp only[ww]|(apply xa;simp+decide only[go_sem,c1,ah,ho,bz,dh,a0g,a0h];rfl;kernel_rfl))
    refine a1j (c.outs.length-(i+1)) (by omega) ⟨_,_,?_,i+1,rfl,ah,rfl,rfl⟩;rw[eD]
    (simp+decide only[go_sem,a02,a00,a05,a06,e14,f4o,n1,n2]<;>rfl)<;>rfl
   |cons a r=>
    simp only[e12]at eM;have aE:r.length+1+1≤1000000000:=by omega
    simp only[f9j]at db;simp only[c10,List.cons.injEq]at eo;have dh:=λ(d:Bool) (x1 x2 x3 x4:Option AObj)=>dh d [some (.row 1 NR),x1,x2,x3,x4] rfl
    (repeat first|simp only[ww]|(apply xa;simp+decide only[go_sem,c1,ah,ho,bz,dh,a05,a06,aE];rfl;kernel_rfl))
    refine a1j (c.outs.length-(i+1)) (by omega) ⟨_,_,?_,i+1,rfl,ah,rfl,rfl⟩;rw[eD]
    (simp+decide only[go_sem,a02,a00,a05,a06,f6a,db,eo,n1,n2]<;>rfl)<;>rfl
  ·obtain rfl:i=c.outs.length:=by omega
   have c1:¬(c.outs.length:Int)<c.outs.length:=by omega
   rw[f6i]at eM ek⊢;have vB:0<c.outs.length:=List.length_pos_iff.2 hO;have vt:a6m (a1q c.outs nets) = .islice ((a1q c.outs nets).map u8R) (some c.outs.length):=by
    have g8:(a1q c.outs nets).length=c.outs.length:=by simp[a1q]
    cases ho:a1q c.outs nets with
    |nil=>rw[ho]at g8;simp at g8;omega
    |cons v q=>rw[ho]at g8;simp only[e12]at g8;rw[←g8];rfl
   unfold b4l;rw[vt];generalize(a1q c.outs nets).map u8R=T at eM ek;cases T with
   |nil=>simp at eM;omega
   |cons a r=>
    have eL:r.length+1=c.outs.length:=by simpa using eM
    have db:=a0f ek;have eo:=λπ=>a0c π ek;have rU:=λ(m:Nat) (q:AV→Option AV)=>a12 m q ek;simp only[f9j]at db;simp only[c10,List.cons.injEq]at eo
    (repeat first|simp only[ww]|(apply xa;simp+decide only[go_sem,c1,hs,a05,a06];rfl;kernel_rfl))
    refine a4l kp26_2 (λn F H=>∃i,n=(kinds c.nodes 14).length-i∧i≤(kinds c.nodes 14).length∧F=[(1,.ptr 1 0 0),(2,.ptr 2 0 0),(3,.ptr 3 0 0),(29,sl r1 ((kinds c.nodes 14).map a0a)),(30,.int .i64 (kinds c.nodes 14).length),(31,.int .i64 i)]∧H=[some (.row 1 NR),some (.row 5 [[sl c.nc (c.nodes.map Nd.enc),sl c.mc (c.names.map a13),.nilslice,sl c.oc (c.outs.map a0a),.slice 0 0 c.nodes.length (some c.nodes.length)]]),some (.row 2 [[.nilslice,.nilslice]]),some (.row 2 [[.slice 4 0 (r.length+1) none,grV 5 (((a3y c.nodes nets).take i).map u8R)]]),some (.row 1 (a::r))]++grH 1 (((a3y c.nodes nets).take i).map u8R)) (kinds c.nodes 14).length ?_ ?_
    ·refine⟨_,_,?_,0,rfl,f4m _,rfl,rfl⟩;rw[f6b]
     (simp+decide only[go_sem,a02,a00,a0g,a0h,f4h,n1,n2,db,eo]<;>rfl)<;>rfl
    ·rintro n F H ⟨i,rfl,hi,rfl,rfl⟩
     have pU:(a3y c.nodes nets).length=(kinds c.nodes 14).length:=by simp[a3y]
     have ik:(((a3y c.nodes nets).take i).map u8R).length=i:=by simp;omega
     have fg:=a1r ((a3y c.nodes nets).take i);by_cases ah:i<(kinds c.nodes 14).length
     ·obtain⟨q,hq⟩:∃q,(kinds c.nodes 14)[i]?=some q:=⟨_,z9e ah⟩
      obtain⟨m5,ln⟩:=a5i hq;obtain⟨x,hx⟩:∃x,c.nodes[q]?=some x:=⟨_,z9e m5⟩
      have ey:x.kind=14:=by rw[←a0y hx];exact ln
      have jw:x.ins.length=1:=by have h1:=hc.lo x (c11 hx);have h2:=hc.hi x (c11 hx);rw[ey]at h1 h2;have e1:a1e 14=1:=rfl;have e2:a1m 14=1:=rfl;omega
      obtain⟨m,hm⟩:∃m,x.ins[0]?=some m:=⟨_,z9e (by omega)⟩
      have dY:=hc.ins x (c11 hx) m (c11 hm);obtain⟨v,lq⟩:∃v,nets[m]?=some v:=⟨_,z9e (by omega)⟩
      have iK:((a3y c.nodes nets).take (i+1)).map u8R=((a3y c.nodes nets).take i).map u8R++[[.int .u8 (a4t v)]]:=by
       have:(a3y c.nodes nets)[i]?=some (a4t v):=by unfold a3y;rw[f4q,hq];simp only[f5x,a1c hx,List.getD,hm,lq,f9l]
       rw[a0v this,f6c];rfl
      have c1:(i:Int)<(kinds c.nodes 14).length:=by omega
      have bz:=wI1 (n:=i) (by omega);have cZ:decide ((x.ins.length:Int)=1)=true:=f8b (by omega);have tT:Ax.rowAt (x.ins.map a0a) 0=some [AV.int .i64 m]:=by have:=rowAt_nat (x.ins.map a0a) 0;rw[Int.natCast_zero]at this;rw[this,f4q,hm];rfl
      have dh:=λ(d:Bool) (H:a03) (hb:a01 H 0=some (.row 1 NR))=>cW d H m v lq hb;have dp:=λ(d:Bool) (H:a03)=>a89 (d:=d) H v;generalize a4t v=w at iK dp;generalize((a3y c.nodes nets).take i).map u8R=X at ik fg iK;have mS:=a0f fg;have mR:=λπ=>a0c π fg;cases X with
      |nil=>
       have dh:=λ(d:Bool) (x1 x2 x3 x4:Option AObj)=>dh d [some (.row 1 NR),x1,x2,x3,x4] rfl
       (repeat first|simp only[ww]|(apply xa;simp+decide only[go_sem,c1,ah,hq,m5,hx,cZ,tT,hm,bz,dh,dp,a0g,a0h];rfl;kernel_rfl))
       refine a1j ((kinds c.nodes 14).length-(i+1)) (by omega) ⟨_,_,?_,i+1,rfl,ah,rfl,rfl⟩;rw[iK]
       (simp+decide only[go_sem,a02,a00,a05,a06,e14,f4o,n1,n2,db,eo]<;>rfl)<;>rfl
      |cons a2 r2=>
       simp only[e12]at ik;have aE:r2.length+1+1≤1000000000:=by omega
       simp only[f9j]at mS;simp only[c10,List.cons.injEq]at mR;have dh:=λ(d:Bool) (x1 x2 x3 x4 x5:Option AObj)=>dh d [some (.row 1 NR),x1,x2,x3,x4,x5] rfl
       (repeat first|simp only[ww]|(apply xa;simp+decide only[go_sem,c1,ah,hq,m5,hx,cZ,tT,hm,bz,dh,dp,a05,a06,aE];rfl;kernel_rfl))
       refine a1j ((kinds c.nodes 14).length-(i+1)) (by omega) ⟨_,_,?_,i+1,rfl,ah,rfl,rfl⟩;rw[iK]
       (simp+decide only[go_sem,a02,a00,a05,a06,f6a,mS,mR,n1,n2,db,eo]<;>rfl)<;>rfl
     ·obtain rfl:i=(kinds c.nodes 14).length:=by omega
      have c1:¬((kinds c.nodes 14).length:Int)<(kinds c.nodes 14).length:=by omega
      have iH:=λ(d:Bool) (x0 x1 x2 x3:Option AObj) (R:a03)=>b0l (d:=d) (H:=x0::x1::x2::x3::some (.row 1 (a::r))::R) (b:=4) (n:=r.length+1) ek rfl;rw[f4l (by omega)]at ik fg⊢;cases hX:a3y c.nodes nets with
      |nil=>
       have kQ:=λ(d:Bool) (H:a03)=>b7b (d:=d) H
       (repeat first|simp only[ww]|(apply xa;simp+decide only[go_sem,c1,iH,kQ,f4h,a0g,a0h];rfl;kernel_rfl))
       refine a5l (vs:=[.agg [.slice 4 0 (r.length+1) (some (r.length+1)),.nilslice]]) (r:=(_,_)) (by simp+decide only[go_sem]) ?_ rfl;show a1f false 1 (.agg [.slice 4 0 (r.length+1) (some (r.length+1)),.nilslice]) _=_;have fj:List.take (r.length+1) (a::r)=a::r:=f6i (l:=a::r);rw[←eL];unfold a6m;simp+decide only[go_sem,rU,n2,fj]<;>rfl
      |cons a2 r2=>
       rw[hX]at ik fg;have j0:=λ(d:Bool) (x0 x1 x2 x3 x4:Option AObj)=>b0l (d:=d) (H:=[x0,x1,x2,x3,x4,some (.row 1 ((a2::r2).map u8R))]) (b:=5) (n:=r2.length+1) fg rfl;have p8:=λ(m:Nat) (q:AV→Option AV)=>a12 m q fg;have cH:(r2.map u8R).length=r2.length:=f4j ..;simp only[c10,u8R]at j0 p8 fg⊢
       (repeat first|simp only[ww]|(apply xa;simp+decide only[go_sem,c1,iH,j0,a05,a06,cH];rfl;kernel_rfl))
       refine a5l (vs:=[.agg [.slice 4 0 (r.length+1) (some (r.length+1)),.slice 5 0 (r2.length+1) (some (r2.length+1))]]) (r:=(_,_)) (by simp+decide only[go_sem]) ?_ rfl;show a1f false 1 (.agg [.slice 4 0 (r.length+1) (some (r.length+1)),.slice 5 0 (r2.length+1) (some (r2.length+1))]) _=_;have fj:List.take (r.length+1) (a::r)=a::r:=f6i (l:=a::r);have qz:List.take (r2.length+1) ([AV.int .u8 a2]::r2.map u8R)=[AV.int .u8 a2]::r2.map u8R:=f4l (by simp);rw[←eL];unfold a6m;simp only[c10,u8R];simp+decide only[go_sem,rU,p8,n2,fj,qz]<;>rfl
theorem c8v{d:Bool}{H:a03}{b:Nat}(c:Cir)(hc:c.wf)(p:Pat)(hp:PatOk c.nodes p)(N0:List Nat)(hN:N0.length=c.nodes.length)(hb:a01 H b=some (.row 1 (N0.map u8R))) :
 a0b L.env d (sem L.env Mf) (.func (.func 23) [] []) [.agg [sl c.nc (c.nodes.map Nd.enc),sl c.mc (c.names.map a13),.nilslice,sl c.oc (c.outs.map a0a),.slice b 0 c.nodes.length (some c.nodes.length)],.agg [sl p.ic (p.ins.map u8R),sl p.sc (p.sts.map u8R)]] H=some (.tuple [],H.set b (some (.row 1 ((a1l (a1l N0 (kinds c.nodes 0) p.ins) (kinds c.nodes 14) p.sts).map u8R))),[b]):=
 a60 (fs:=[]) (cs:=[]) (ar:=[.agg [sl c.nc (c.nodes.map Nd.enc),sl c.mc (c.names.map a13),.nilslice,sl c.oc (c.outs.map a0a),.slice b 0 c.nodes.length (some c.nodes.length)],.agg [sl p.ic (p.ins.map u8R),sl p.sc (p.sts.map u8R)]]) (by kernel_rfl) (by kernel_rfl) rfl hb (a0r (a1r N0)) (FlatO.row (a1r N0)) (by simp only[e14,f4g,go_sem]) (au:=[.agg [sl c.nc (c.nodes.map Nd.enc),sl c.mc (c.names.map a13),.nilslice,sl c.oc (c.outs.map a0a),.slice 0 0 c.nodes.length (some c.nodes.length)],.agg [sl p.ic (p.ins.map u8R),sl p.sc (p.sts.map u8R)]]) (by simp only[e14,f4g,c10,f4h,c5h,a20,b8h,a9n]) (d6t c hc p hp N0 hN) (FlatO.row (a1r _)) rfl
theorem d1r{d:Bool}{H:a03}{b:Nat}(c:Cir)(hc:c.wf)(hO:c.outs≠[])(nets:List Nat)(hl:nets.length=c.nodes.length)(hv:∀v∈nets,v≤3)(hb:a01 H b=some (.row 1 (nets.map u8R))) :
 a0b L.env d (sem L.env Mf) (.func (.func 26) [] []) [.agg [sl c.nc (c.nodes.map Nd.enc),sl c.mc (c.names.map a13),.nilslice,sl c.oc (c.outs.map a0a),.slice b 0 c.nodes.length (some c.nodes.length)]] H=some (b4l (a1q c.outs nets) (a3y c.nodes nets),H,[b]):=
 a2e (fs:=[]) (cs:=[]) (ar:=[.agg [sl c.nc (c.nodes.map Nd.enc),sl c.mc (c.names.map a13),.nilslice,sl c.oc (c.outs.map a0a),.slice b 0 c.nodes.length (some c.nodes.length)]]) (by kernel_rfl) (by kernel_rfl) rfl hb (a0r (a1r nets)) (FlatO.row (a1r nets)) (by simp only[e14,f4g,go_sem]) (au:=[.agg [sl c.nc (c.nodes.map Nd.enc),sl c.mc (c.names.map a13),.nilslice,sl c.oc (c.outs.map a0a),.slice 0 0 c.nodes.length (some c.nodes.length)]]) (by simp only[e14,f4g,c10,f4h,c5h,a20,b8h,a9n]) (e2m c hc hO nets hl hv) (a9p _ _)
theorem c39{d:Bool}{H:a03}{b:Nat}(k:Nat)(hk:k<16)(l:List Nat)(hl:l.length<1000000)(cp:Option Nat)(X:List (List AV))(hX:FlatR X)(ik:X.take l.length=l.map u8R)(hb:a01 H b=some (.row 1 X)){m:Nat}(hm:m=l.length) :
 a0b L.env d (sem L.env Mf) (.func (.func 25) [] []) [.int .u8 k,.slice b 0 m cp] H=some (.int .u8 (a4d k l:Nat),H,[b]):=by
 subst hm;have hs:X=l.map u8R++X.drop l.length:=by rw[←ik,g1q]
 have hr:=b1x k hk l (.slice 0 0 l.length cp) [some (.row 1 (l.map u8R++X.drop l.length))] (.blk cp _ (by rw[←hs];exact hX)) hl;rw[←hs]at hr;exact a2e (fs:=[]) (cs:=[]) (ar:=[.int .u8 k,.slice b 0 l.length cp]) (by kernel_rfl) (by kernel_rfl) rfl hb (a0r hX) (FlatO.row hX) (by simp only[e14,f4g,go_sem]) (au:=[.int .u8 k,.slice 0 0 l.length cp]) (by simp only[e14,f4g,c10,f4h,a20,d1z]) hr rfl
theorem c8x{d:Bool}(H:a03)(c:Cir)(h:c.wf)(p:Pat)(hp:PatOk c.nodes p):a0b L.env d (sem L.env Mf) (.func (.func 22) [] []) [.agg c.enc,.agg p.enc] H=some (.int .i64 0,H,[]):=a04 (by kernel_rfl) (by kernel_rfl) rfl (by simp only[a07,a11,Cir.enc,Pat.enc,go_sem]) (d4b c h p hp) rfl
theorem a2s(l:List Nat):(a6m l).storable=true:=by cases l<;>rfl
def a4u(c:Cir)(ord:List Nat)(p:Pat):List Nat:=b4n nAlg c.nodes hk0 ord (kinds c.nodes 0) (kinds c.nodes 14) p.ins p.sts
theorem g1z{X:List (List AV)}{j n:Nat}{x:List AV}(hl:X.length=n)(hj:j<n):(X.take j++[x]++X.drop (j+1)).length=n∧(X.take j++[x]++X.drop (j+1)).take (j+1)=X.take j++[x]:=by refine⟨by simp;omega,?_⟩;rw[List.take_append_of_le_length (by simp;omega),f4l (by simp;omega)]
theorem d3o{X:List (List AV)}{j:Nat}{x:List AV}(hX:FlatR X)(hx:a0l x=[]):FlatR (X.take j++[x]++X.drop (j+1)):=by
 intro r hr;simp only[f8n,f6f]at hr;rcases hr with (hr|rfl)|hr
 ·exact hX r (List.mem_of_mem_take hr)
 ·exact hx
 ·exact hX r (List.mem_of_mem_drop hr)
theorem c16:∀(is vs N:List Nat),(∀v∈N,v≤3)→(∀v∈vs,v≤3)→∀v∈a1l N is vs,v≤3
 | [],vs,N,h,_=>by cases vs<;>exact h
 |_::_,[],N,h,_=>h
 |i::is,w::vs,N,h,hv=>by
  simp only[a1l];refine c16 is vs _ (λv hm=>?_) (λv hm=>hv v (g12 _ hm));rcases g0u hm with h1|h1
  ·exact h v h1
  ·rw[h1];exact hv w (List.mem_cons_self ..)
theorem e35{nodes:List Nd}{N:List Nat}{n:Nat}(h:∀v∈N,v≤3):∀v∈a0n nAlg nodes hk0 N n,v≤3:=by
 have key:∀(l:List Nat) (p:Nat),∀v∈a2h nAlg hk0 n N p l,v≤3:=by
  intro l
  induction l with
  |nil=>intro p v hv;simp[a2h]at hv
  |cons m l ih=>
   intro p v hv;simp only[a2h,f6m]at hv;rcases hv with rfl|hv
   ·show N.getD m 0≤3;rw[List.getD];cases hm:N[m]? with
    |none=>decide
    |some w=>exact h w (c11 hm)
   ·exact ih _ v hv
 exact key _ _
theorem d1q(c:Cir)(hc:c.wf)(hO:c.outs≠[])(p:Pat)(hp:PatOk c.nodes p)(ord:List Nat)(aR:OrdOf c ord):sem L.env Mf 9 [.agg c.enc,.agg p.enc] []=some (.tuple [b4l (a1q c.outs (a4u c ord p)) (a3y c.nodes (a4u c ord p)),.islice ((a4u c ord p).map u8R) (some c.nodes.length),.int .i64 0],[]):=by
 have cG:=hc.len;have aE:c.nodes.length≤1000000000:=by omega
 have ho:=aR.call;have cw:∀n∈ord,n<c.nodes.length:=λn hn=>by have:=aR.perm.mem_iff.1 hn;simpa using this
 have bW:ord.length=c.nodes.length:=by rw[aR.perm.length_eq];simp
 have i8:=λ(d:Bool) H=>c8x (d:=d) H c hc p hp;have rD:c.enc=[sl c.nc (c.nodes.map Nd.enc),sl c.mc (c.names.map a13),.nilslice,sl c.oc (c.outs.map a0a)]:=rfl;have fu:Pat.enc p=[sl p.ic (p.ins.map u8R),sl p.sc (p.sts.map u8R)]:=rfl;rw[rD,fu]at i8;rw[rD]at ho;rw[rD,fu];have qV:=λ(d:Bool) (x0 x1 x2 x4:Option AObj)=>c8v (d:=d) (H:=[x0,x1,x2,some (.row 1 ((List.replicate c.nodes.length 0).map u8R)),x4]) (b:=3) c hc p hp (List.replicate c.nodes.length 0) (by simp) rfl;have dO:=λ(d:Bool) (x0 x1 x3:Option AObj) (N:List Nat) (hl:N.length=c.nodes.length) (hv:∀v∈N,v≤3)=>d1r (d:=d) (H:=[x0,x1,some (.row 1 (N.map u8R)),x3]) (b:=2) c hc hO N hl hv rfl;have pe:(a1l (a1l (List.replicate c.nodes.length 0) (kinds c.nodes 0) p.ins) (kinds c.nodes 14) p.sts).length=c.nodes.length:=by rw[a2g,a2g];simp
 have im:∀v∈a1l (a1l (List.replicate c.nodes.length 0) (kinds c.nodes 0) p.ins) (kinds c.nodes 14) p.sts,v≤3:=c16 _ _ _ (c16 _ _ _ (λv hv=>by rw[f9u hv];omega) hp.inv) hp.stv;have hG:a4u c ord p=ord.foldl (Pc.stepG nAlg c.nodes hk0) (a1l (a1l (List.replicate c.nodes.length 0) (kinds c.nodes 0) p.ins) (kinds c.nodes 14) p.sts):=rfl;rw[hG];have m4:(List.replicate c.nodes.length 0).map u8R=List.replicate c.nodes.length [AV.int .u8 0]:=by rw[List.map_replicate];rfl
 rw[m4]at qV;generalize a1l (a1l (List.replicate c.nodes.length 0) (kinds c.nodes 0) p.ins) (kinds c.nodes 14) p.sts=N1 at qV pe im⊢
 suffices hs:∃r:AV×a03,(r=(.tuple [b4l (a1q c.outs (ord.foldl (Pc.stepG nAlg c.nodes hk0) N1)) (a3y c.nodes (ord.foldl (Pc.stepG nAlg c.nodes hk0) N1)),.islice ((ord.foldl (Pc.stepG nAlg c.nodes hk0) N1).map u8R) (some c.nodes.length),.int .i64 0],[]))∧sem L.env Mf 9 [.agg [sl c.nc (c.nodes.map Nd.enc),sl c.mc (c.names.map a13),.nilslice,sl c.oc (c.outs.map a0a)],.agg [sl p.ic (p.ins.map u8R),sl p.sc (p.sts.map u8R)]] []=some r by obtain⟨r,rfl,h3⟩:=hs;exact h3
 (refine svE Tryz.f9 ?_;simp only[Tryz.f9,gS])
 (repeat first|simp only[ww]|(apply xa;simp+decide only[go_sem,ho,i8,aE,qV];rfl;kernel_rfl))
 refine a4l kp9_0 (λn F H=>∃(i q:Nat) (X:List (List AV)),n=ord.length-i∧i≤ord.length∧q≤16∧X.length=16∧FlatR X∧(∀v∈(ord.take i).foldl (Pc.stepG nAlg c.nodes hk0) N1,v≤3)∧F=[(4,.ptr 0 0 0),(9,.ptr 1 0 0),(10,.slice 3 0 q (some 16)),(40,.islice (ord.map a0a) (some c.nodes.length)),(41,.int .i64 ord.length),(42,.int .i64 i)]∧H=[some (.row 2 [[.nilslice,.nilslice]]),some (.row 5 [[sl c.nc (c.nodes.map Nd.enc),sl c.mc (c.names.map a13),.nilslice,sl c.oc (c.outs.map a0a),.slice 2 0 c.nodes.length (some c.nodes.length)]]),some (.row 1 (((ord.take i).foldl (Pc.stepG nAlg c.nodes hk0) N1).map u8R)),some (.row 1 X)]) ord.length ?_ ?_
 ·refine⟨_,_,?_,0,0,List.replicate 16 [.int .u8 0],rfl,f4m _,by omega,rfl,λr hr=>by rw[f9u hr];rfl,by rw[f6b];exact im,rfl,rfl⟩;rw[f6b,List.foldl_nil]
  (simp+decide only[go_sem,a02,a00,a3k,a37]<;>rfl)<;>rfl
 ·rintro n F H ⟨i,q,X,rfl,hi,hq,ik,fg,jb,rfl,rfl⟩
  have aQ:=a6q (A:=nAlg) (nodes:=c.nodes) (h:=hk0) (ord.take i) N1;rw[pe]at aQ;have x1:=a0f fg;have x2:=λπ=>a0c π fg;by_cases ah:i<ord.length
  ·obtain⟨n,hn⟩:∃n,ord[i]?=some n:=⟨_,z9e ah⟩
   have bp:=cw n (c11 hn);obtain⟨x,hx⟩:∃x,c.nodes[n]?=some x:=⟨_,z9e bp⟩
   have dK:=c11 hx;have k14:=hc.kind x dK;have cM:=hc.insl dK;have kJ:=a0y hx;have hs:=b6t (A:=nAlg) (nodes:=c.nodes) (h:=hk0) (nets:=N1) hn;have c1:(i:Int)<ord.length:=by omega
   have bz:=wI1 (n:=i) (by omega);have dz:=λ(d:Bool) H=>b7a (d:=d) H x.kind (by omega);have we:x.enc=[.int .u8 x.kind,sl x.c (x.ins.map a0a),.int .i64 x.mem,.int .i64 x.bit]:=rfl;generalize(ord.take i).foldl (Pc.stepG nAlg c.nodes hk0) N1=N at hs aQ jb;obtain⟨w0,bM⟩:∃w,N[n]?=some w:=⟨_,z9e (by omega)⟩
   by_cases dG:a1o x.kind=true
   ·have aF:a0e c.nodes n≠0∧a0e c.nodes n≠14:=by
     rw[kJ];constructor<;>(intro e;rw[e]at dG;exact absurd dG (by decide))
    have kI:x.kind<16:=by omega
    have tG:a15 c.nodes n=x.ins:=a1c hx;have np:(a0n nAlg c.nodes hk0 N n).length=x.ins.length:=by rw[a2r,tG]
    have pS:=e35 (nodes:=c.nodes) (n:=n) jb
    (repeat first|simp only[ww]|(apply xa;simp+decide only[go_sem,c1,ah,hn,hx,bp,dz,dG];rfl;kernel_rfl))
    refine a4l kp9_2 (λm F H=>∃(j:Nat) (Y:List (List AV)),m=x.ins.length-j∧j≤x.ins.length∧Y.length=16∧FlatR Y∧Y.take j=((a0n nAlg c.nodes hk0 N n).take j).map u8R∧F=[(4,.ptr 0 0 0),(9,.ptr 1 0 0),(10,.slice 3 0 j (some 16)),(12,.int .i64 n),(13,.ptr 4 0 0),(40,.islice (ord.map a0a) (some c.nodes.length)),(41,.int .i64 ord.length),(42,.int .i64 i),(59,sl x.c (x.ins.map a0a)),(60,.int .i64 x.ins.length),(61,.int .i64 j)]∧H=[some (.row 2 [[.nilslice,.nilslice]]),some (.row 5 [[sl c.nc (c.nodes.map Nd.enc),sl c.mc (c.names.map a13),.nilslice,sl c.oc (c.outs.map a0a),.slice 2 0 c.nodes.length (some c.nodes.length)]]),some (.row 1 (N.map u8R)),some (.row 1 Y),some (.row 4 [[.int .u8 x.kind,sl x.c (x.ins.map a0a),.int .i64 x.mem,.int .i64 x.bit]])]) x.ins.length ?_ ?_
    ·refine⟨_,_,?_,0,X,rfl,f4m _,ik,fg,rfl,rfl,rfl⟩
     (simp+decide only[go_sem,a02,a00,a3k,a37,x1,x2]<;>rfl)<;>rfl
    ·rintro m F H ⟨j,Y,rfl,hj,rL,mM,tC,rfl,rfl⟩
     have y1:=a0f mM;have y2:=λπ=>a0c π mM;by_cases aS:j<x.ins.length
     ·obtain⟨u,hu⟩:∃u,x.ins[j]?=some u:=⟨_,z9e aS⟩
      have px:=hc.ins x dK u (c11 hu);obtain⟨v,hv⟩:∃v,N[u]?=some v:=⟨_,z9e (by omega)⟩
      have d1:(j:Int)<x.ins.length:=by omega
      have uv:=wI1 (n:=j) (by omega);have gm:=b32 (A:=nAlg) (h:=hk0) (nodes:=c.nodes) (nets:=N) (n:=n) (i:=j) (by rw[tG];exact hu) hv;obtain⟨z1,z2⟩:=g1z (x:=[AV.int .u8 v]) rL (show j<16 by omega);have z3:=d3o (j:=j) (x:=[AV.int .u8 v]) mM rfl;generalize hZ:Y.take j++[[AV.int .u8 v]]++Y.drop (j+1)=Z at z1 z2 z3;rw[tC]at z2;have w1:=a0f z3;have w2:=λπ=>a0c π z3;have q7:j≤16:=by omega
      have q6:j+1≤16:=by omega
      (repeat first|simp only[ww]|(apply xa;simp+decide only[go_sem,d1,aS,hu,px,hv,aQ,uv,rL,q7,q6,hZ,f8j];rfl;kernel_rfl))
      refine a1j (x.ins.length-(j+1)) (by omega) ⟨_,_,?_,j+1,Z,rfl,aS,z1,z3,?_,rfl,rfl⟩
      ·(simp+decide only[go_sem,a02,a00,a3k,a37,w1,w2,hZ]<;>rfl)<;>rfl
      ·rw[z2,gm,f6c];rfl
     ·obtain rfl:j=x.ins.length:=by omega
      have d1:¬(x.ins.length:Int)<x.ins.length:=by omega
      have eh:=λ(d:Bool) (x0 x1 x2 x4:Option AObj)=>c39 (d:=d) (H:=[x0,x1,x2,some (.row 1 Y),x4]) (b:=3) x.kind kI (a0n nAlg c.nodes hk0 N n) (by omega) (some 16) Y mM (by rw[np,tC,f4l (by omega)]) rfl (m:=x.ins.length) np.symm;have br:Pc.stepG nAlg c.nodes hk0 N n=N.set n (a4d x.kind (a0n nAlg c.nodes hk0 N n)):=by unfold Pc.stepG;rw[f6e aF,kJ];show N.set n (a4d x.kind ((a0n nAlg c.nodes hk0 N n).map a2i))=_;rw[a9v pS]
      have bC:=c7f x.kind _ pS;rw[br]at hs;generalize a4d x.kind (a0n nAlg c.nodes hk0 N n)=w at eh hs bC;have jD:(N.map u8R).set n [AV.int .u8 w]=(N.set n w).map u8R:=by rw[f9n];rfl
      (repeat first|simp only[ww]|(apply xa;simp+decide only[go_sem,d1,eh,bp,aQ,bM,jD,bz];rfl;kernel_rfl))
      refine a1j (ord.length-(i+1)) (by omega) ⟨_,_,?_,i+1,x.ins.length,Y,rfl,ah,by omega,rL,mM,?_,rfl,rfl⟩
      ·rw[hs]
       (simp+decide only[go_sem,a02,a00,a3k,a37,y1,y2]<;>rfl)<;>rfl
      ·rw[hs];intro v hv;rcases g0u hv with h1|h1
       ·exact jb v h1
       ·rw[h1];exact bC
   ·have dG:a1o x.kind=false:=by simpa using dG
    have br:Pc.stepG nAlg c.nodes hk0 N n=N:=by
     have aF:¬(a0e c.nodes n≠0∧a0e c.nodes n≠14):=by rw[kJ];intro hh;simp[a1o]at dG;omega
     unfold Pc.stepG;rw[f4n aF];show N.set n (N.getD n 0)=N;rw[List.getD,bM,f9l];have:=(c13.1 bM)
     rw[←this.2];exact List.set_getElem_self this.1
    rw[br]at hs
    (repeat first|simp only[ww]|(apply xa;simp+decide only[go_sem,c1,ah,hn,hx,bp,dz,dG,bz];rfl;kernel_rfl))
    refine a1j (ord.length-(i+1)) (by omega) ⟨_,_,?_,i+1,q,X,rfl,ah,hq,ik,fg,by rw[hs];exact jb,rfl,rfl⟩;rw[hs]
    (simp+decide only[go_sem,a02,a00,a3k,a37,x1,x2]<;>rfl)<;>rfl
  ·obtain rfl:i=ord.length:=by omega
   have c1:¬(ord.length:Int)<ord.length:=by omega
   rw[f6i]at aQ jb⊢;generalize ord.foldl (Pc.stepG nAlg c.nodes hk0) N1=N at aQ jb⊢;have dO:=λ(d:Bool) (x0 x1 x3:Option AObj)=>dO d x0 x1 x3 N aQ jb;unfold b4l at dO⊢;have q1:=a3p (a1q c.outs N);have eP:=a2s (a1q c.outs N);have gi:=a2s (a3y c.nodes N);have q2:=a3p (a3y c.nodes N);generalize a6m (a1q c.outs N)=V1 at dO q1 eP⊢;generalize a6m (a3y c.nodes N)=V2 at dO q2 gi⊢;have s1:V1.storable=true:=eP;have s2:V2.storable=true:=gi;have kU:=a1r N;have r1:∀π,ren π V1=V1:=λπ=>a14 π _ q1;have r2:∀π,ren π V2=V2:=λπ=>a14 π _ q2;have f1:=λm t d=>a43 m t d V1 q1;have f2:=λm t d=>a43 m t d V2 q2;have f3:=λm d=>a12 m d kU;have fj:(N.map u8R).take c.nodes.length=N.map u8R:=f4l (by simp;omega)
   (repeat first|simp only[ww]|(apply xa;simp+decide only[go_sem,c1,dO,s1,s2];rfl;kernel_rfl))
   refine a5l (vs:=[.agg [V1,V2],.slice 2 0 c.nodes.length (some c.nodes.length),.int .i64 0]) (r:=(_,_)) (by simp+decide only[go_sem]) ?_ rfl;show a1f false 0 (.tuple [.agg [V1,V2],.slice 2 0 c.nodes.length (some c.nodes.length),.int .i64 0]) _=_;simp+decide only[go_sem,f1,f2,f3,fj,aQ]<;>rfl
end Go.TInst
