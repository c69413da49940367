/- Part of a proof. No condition. -/
import Derived.Test.YtmiegcjnimlbmaaGreatDoorUNe
import Derived.Test.YtmiegcjnimlbmaaGreatDoorPcB
import Derived.Test.YtmiegcjnimlbmaaGreatDoorAxD
import Derived.Test.YtmiegcjnimlbmaaGreatDoorUPa
set_option linter.unusedSimpArgs false
set_option linter.unusedVariables false
namespace Go.UInst
open Go.Proofs Go.Ax Go.Pc
set_option maxRecDepth 100000
inductive RA(l:List Nat):AV→a02→Prop
 |imm (r:Rep):RA l (sl r (l.map u8R)) []
 |blk (c:Option Nat) (rest:List (List AV)) (hf:FlatR (l.map u8R++rest)):RA l (.slice 0 0 l.length c) [some (.row 1 (l.map u8R++rest))]
theorem a2e(l:List Nat):FlatR (l.map u8R):=FlatR.map λ_=>rfl
theorem b9e{l:List Nat}{V:AV}{H:a02}(h:RA l V H):b8l L.env (a01 H) 52 V=some (.int .i64 l.length):=by
 cases h with
 |imm r=>simp+decide only[go_sem]
 |blk c rest hf=>simp+decide only[go_sem]
theorem b9f{l:List Nat}{V:AV}{H:a02}(h:RA l V H){i v:Nat}(hi:l[i]?=some v):∃p,a0w L.env (a01 H) 52 V (.int .i64 i)=some p∧a64 L.env (a01 H) 53 p=some (.int .u8 v):=by
 have hlt:=(List.getElem?_eq_some_iff.1 hi).1;cases h with
 |imm r=>exact⟨_,by simp+decide only[go_sem,hi,hlt]<;>rfl,by simp+decide only[go_sem,hi,hlt]⟩
 |blk c rest hf=>
  have hg:(l.map u8R++rest)[i]?=some [.int .u8 v]:=by rw[List.getElem?_append_left (by simpa using hlt),List.getElem?_map,hi];rfl
  have hl2:i<(l.map u8R++rest).length:=by simp;omega
  exact⟨_,by simp+decide only[go_sem,hg,hlt,hl2]<;>rfl,by simp+decide only[go_sem,hg,hlt,hl2]⟩
theorem a1m{l:List Nat}{V v:AV}{H:a02}(h:RA l V H)(hv:refs v=[]):a26 false H.length v H=some (v,H):=by
 cases h with
 |imm r=>exact a7a hv
 |blk c rest hf=>have h1:=λπ=>a06 π hf;have hr:∀π,ren π v=v:=λπ=>a0d π v hv;simp+decide only[go_sem,a26,a0j _ _ _ _ hv,h1]
theorem d7w{l:List Nat}{V:AV}{H:a02}(h:RA l V H)(b:Nat):a0y (a01 H b)=[]:=by
 cases h with
 |imm r=>rfl
 |blk c rest hf=>
  cases b with
  |zero=>exact a0m hf
  |succ b=>rfl
theorem d66{l:List Nat}{V:AV}{H:a02}(h:RA l V H):(∀b∈refs V,b<H.length)∧(refs V).length≤1:=by
 cases h with
 |imm r=>rw[a1b];exact⟨λb hb=>by simp at hb,by simp⟩
 |blk c rest hf=>exact⟨λb hb=>by simp[refs]at hb;subst hb;simp,by simp[refs]⟩
theorem b7g{l:List Nat}{V:AV}{H:a02}(h:RA l V H){keep:List Nat}{F F':Frm}(hk:a1r keep F=F')(hF:a0e (F'.map (·.2))=refs V∨a0e (F'.map (·.2))=[]):gcD H.length keep F H=some (F',H):=by
 obtain⟨h1,h2⟩:=d66 h;refine e3u hk ?_ ?_ (d7w h)
 ·rcases hF with e|e<;>rw[e]
  ·exact h1
  ·intro b hb;simp at hb
 ·rcases hF with e|e<;>rw[e]
  ·omega
  ·simp
theorem a5r{l:List Nat}{V:AV}{H:a02}(h:RA l V H){d:Bool}{g:FuncId}{pre post:List AV}{v:AV}(hx:L.env.ext g=false)(hf:(L.env.fn g).isSome=true)(hp:a0e pre=[])(hq:a0e post=[])(hv:refs v=[])
 (hr:∀V H,RA l V H→sem L.env Mf g (pre++V::post) H=some (v,H)):a0a L.env d (sem L.env Mf) (.func (.func g) [] []) (pre++V::post) H=some (v,H,refs V):=by
 have hr:=hr V H h;cases h with
 |imm r=>rw[a1b];exact a04 hx hf rfl (by simp only[List.nil_append,List.append_nil,b1g,a07,a1b,hp,hq]) (by simpa using hr) hv
 |blk c rest hfl=>refine a30 (b:=0) (fs:=[]) (cs:=[]) (args:=pre ++ .slice 0 0 l.length c::post) hx hf (by simp) rfl (a0m hfl) (FlatO.row hfl) (by simp only[b1g,a07,hp,hq,c54,List.nil_append,List.append_nil]) (args':=pre ++ .slice 0 0 l.length c::post) ?_ hr hv;rw[List.map_append,List.map_cons,a1y];have e:∀l:List AV,a0e l=[]→l.map (ren (a7n [0]))=l:=λl hl=>a35 _ hl;rw[e _ hp,e _ hq]
/-! ### scalars -/
theorem c93(v:Nat):sem L.env Mf 148 [.int .u8 v] []=some (.bool (decide (v≤1)),[]):=by
 have e:decide ((v:Int)≤1)=decide (v≤1):=by rw[decide_eq_decide];omega
 (refine sv Tryz.f148 ?_;simp only[Tryz.f148,gS])
 (repeat first|simp only[ww]|(apply xa;simp+decide only[go_sem,e];rfl;kernel_rfl))
 (apply fqb;simp+decide only[go_sem]<;>rfl)
theorem b3f{d:Bool}(H:a02)(v:Nat):a0a L.env d (sem L.env Mf) (.func (.func 148) [] []) [.int .u8 v] H=some (.bool (decide (v≤1)),H,[]):=a04 (by kernel_rfl) (by kernel_rfl) rfl rfl (c93 v) rfl
theorem d39(v:Nat):sem L.env Mf 107 [.int .u8 v] []=some (.int .u8 (a58 v:Nat),[]):=by
 have e:d6r (.int .u8 v) [.int .u8 2]=some (.int .u8 ((a58 v:Nat):Int)):=by
  simp only[d6r,a58];by_cases h:(2:Int)<v
  ·rw[if_pos h];congr 2;omega
  ·rw[if_neg h];congr 2;omega
 generalize a58 v=w at e
 (refine sv Tryz.f107 ?_;simp only[Tryz.f107,gS])
 (repeat first|simp only[ww]|(apply xa;simp+decide only[go_sem,e];rfl;kernel_rfl))
 (apply fqb;simp+decide only[go_sem]<;>rfl)
theorem a6o{d:Bool}(H:a02)(v:Nat):a0a L.env d (sem L.env Mf) (.func (.func 107) [] []) [.int .u8 v] H=some (.int .u8 (a58 v:Nat),H,[]):=a04 (by kernel_rfl) (by kernel_rfl) rfl rfl (d39 v) rfl
theorem d8j(v:Nat):sem L.env Mf 108 [.int .u8 v] []=some (.int .u8 (b24 v:Nat),[]):=by
 have hk:=λH=>b3f (d:=false) H v;by_cases h:v≤1
 ·have hw:IntKind.u8.wrap (1-(v:Int))=((1-v:Nat):Int):=by rw[IntWalk.u8_in _ ⟨by omega,by omega⟩];omega
  rw[show b24 v=1-v by simp[b24,h]]
  (refine sv Tryz.f108 ?_;simp only[Tryz.f108,gS])
  (repeat first|simp only[ww]|(apply xa;simp+decide only[go_sem,hk,h,hw];rfl;kernel_rfl))
  (apply fqb;simp+decide only[go_sem]<;>rfl)
 ·rw[show b24 v=2 by simp[b24,h]]
  (refine sv Tryz.f108 ?_;simp only[Tryz.f108,gS])
  (repeat first|simp only[ww]|(apply xa;simp+decide only[go_sem,hk,h];rfl;kernel_rfl))
  (apply fqb;simp+decide only[go_sem]<;>rfl)
theorem c91{d:Bool}(H:a02)(v:Nat):a0a L.env d (sem L.env Mf) (.func (.func 108) [] []) [.int .u8 v] H=some (.int .u8 (b24 v:Nat),H,[]):=a04 (by kernel_rfl) (by kernel_rfl) rfl rfl (d8j v) rfl
theorem d8k(s a b:Nat):sem L.env Mf 112 [.int .u8 s,.int .u8 a,.int .u8 b] []=some (.int .u8 (b9m s a b:Nat),[]):=by
 have ha:=λH=>a6o (d:=false) H a;have hb:=λH=>a6o (d:=false) H b;by_cases h0:s=0
 ·have c0:(s:Int)=0:=by omega
  rw[show b9m s a b=a58 a by simp[b9m,h0]]
  (refine sv Tryz.f112 ?_;simp only[Tryz.f112,gS])
  (repeat first|simp only[ww]|(apply xa;simp+decide only[go_sem,ha,c0];rfl;kernel_rfl))
  (apply fqb;simp+decide only[go_sem]<;>rfl)
 have c0:¬(s:Int)=0:=by omega
 by_cases h1:s=1
 ·have c1:(s:Int)=1:=by omega
  rw[show b9m s a b=a58 b by simp[b9m,h1]]
  (refine sv Tryz.f112 ?_;simp only[Tryz.f112,gS])
  (repeat first|simp only[ww]|(apply xa;simp+decide only[go_sem,hb,c1];rfl;kernel_rfl))
  (apply fqb;simp+decide only[go_sem]<;>rfl)
 have c1:¬(s:Int)=1:=by omega
 by_cases h2:a=b
 ·have c2:(a:Int)=b:=by omega
  rw[show b9m s a b=a58 a by simp[b9m,h0,h1,h2]]
  (refine sv Tryz.f112 ?_;simp only[Tryz.f112,gS])
  (repeat first|simp only[ww]|(apply xa;simp+decide only[go_sem,ha,c0,c1,c2];rfl;kernel_rfl))
  subst h2
  (repeat first|simp only[ww]|(apply xa;simp+decide only[go_sem,ha];rfl;kernel_rfl))
  (apply fqb;simp+decide only[go_sem]<;>rfl)
 ·have c2:¬(a:Int)=b:=by omega
  rw[show b9m s a b=2 by simp[b9m,h0,h1,h2]]
  (refine sv Tryz.f112 ?_;simp only[Tryz.f112,gS])
  (repeat first|simp only[ww]|(apply xa;simp+decide only[go_sem,c0,c1,c2];rfl;kernel_rfl))
  (apply fqb;simp+decide only[go_sem]<;>rfl)
theorem c92{d:Bool}(H:a02)(s a b:Nat):a0a L.env d (sem L.env Mf) (.func (.func 112) [] []) [.int .u8 s,.int .u8 a,.int .u8 b] H=some (.int .u8 (b9m s a b:Nat),H,[]):=a04 (by kernel_rfl) (by kernel_rfl) rfl rfl (d8k s a b) rfl
theorem d8i(e v:Nat):sem L.env Mf 113 [.int .u8 e,.int .u8 v] []=some (.int .u8 (c1w e v:Nat),[]):=by
 have ha:=λH=>a6o (d:=false) H v;by_cases h0:e=0
 ·have c0:(e:Int)=0:=by omega
  rw[show c1w e v=3 by simp[c1w,h0]]
  (refine sv Tryz.f113 ?_;simp only[Tryz.f113,gS])
  (repeat first|simp only[ww]|(apply xa;simp+decide only[go_sem,c0];rfl;kernel_rfl))
  (apply fqb;simp+decide only[go_sem]<;>rfl)
 have c0:¬(e:Int)=0:=by omega
 by_cases h1:e=1
 ·have c1:(e:Int)=1:=by omega
  rw[show c1w e v=a58 v by simp[c1w,h1]]
  (refine sv Tryz.f113 ?_;simp only[Tryz.f113,gS])
  (repeat first|simp only[ww]|(apply xa;simp+decide only[go_sem,ha,c1];rfl;kernel_rfl))
  (apply fqb;simp+decide only[go_sem]<;>rfl)
 have c1:¬(e:Int)=1:=by omega
 rw[show c1w e v=2 by simp[c1w,h0,h1]]
 (refine sv Tryz.f113 ?_;simp only[Tryz.f113,gS])
 (repeat first|simp only[ww]|(apply xa;simp+decide only[go_sem,c0,c1];rfl;kernel_rfl))
 (apply fqb;simp+decide only[go_sem]<;>rfl)
theorem c8x{d:Bool}(H:a02)(e v:Nat):a0a L.env d (sem L.env Mf) (.func (.func 113) [] []) [.int .u8 e,.int .u8 v] H=some (.int .u8 (c1w e v:Nat),H,[]):=a04 (by kernel_rfl) (by kernel_rfl) rfl rfl (d8i e v) rfl
/-! ### lists -/
theorem c62(l:List Nat)(V:AV)(H:a02)(hV:RA l V H)(hl:l.length<1000000)(low high:Nat):sem L.env Mf 149 [V,.int .u8 low,.int .u8 high] H=some (.int .u8 (a6g low high high l:Nat),H):=by
 have hlen:=b9e hV;have hlow:=d66 hV
 suffices hs:∃r:AV×a02,(r=(.int .u8 (a6g low high high l:Nat),H))∧sem L.env Mf 149 [V,.int .u8 low,.int .u8 high] H=some r by obtain⟨r,rfl,h3⟩:=hs;exact h3
 (refine svE Tryz.f149 ?_;simp only[Tryz.f149,gS])
 (repeat first|simp only[ww]|(apply xa;simp+decide only[go_sem,hlen];rfl;kernel_rfl))
 refine a4j kp149_0 (λn F H1=>∃(i out:Nat),n=l.length-i∧i≤l.length∧F=[(1,.int .u8 low),(2,.int .u8 high),(7,.int .u8 out),(11,V),(12,.int .i64 l.length),(13,.int .i64 i)]∧H1=H∧a6g low high out (l.drop i)=a6g low high high l) l.length ?_ ?_
 ·exact⟨_,_,b7g hV (by simp+decide only[go_sem]<;>rfl) (.inl (by simp+decide only[go_sem])),0,high,rfl,Nat.zero_le _,rfl,rfl,rfl⟩
 ·rintro n F H1 ⟨i,out,rfl,hi,rfl,rfl,hout⟩
  by_cases hlt:i<l.length
  ·obtain⟨v,hv⟩:∃v,l[i]?=some v:=⟨_,z9e hlt⟩
   obtain⟨p,hp1,hp2⟩:=b9f hV hv;have hd:l.drop i=v::l.drop (i+1):=by rw[←List.getElem_cons_drop hlt,(List.getElem?_eq_some_iff.1 hv).2]
   rw[hd]at hout;have c1:(i:Int)<l.length:=by omega
   have hw:=wI1 (n:=i) (by omega);by_cases h1:v=low
   ·have c2:(v:Int)=low:=by omega
    simp only[a6g,h1,if_true]at hout
    (repeat first|simp only[ww]|(apply xa;simp+decide only[go_sem,c1,hp1,hp2,c2];rfl;kernel_rfl))
    refine a2v (vs:=[.int .u8 low]) (r:=(_,_)) (by simp+decide only[go_sem]) (a1m hV rfl) ?_;rw[←hout];rfl
   ·have c2:¬(v:Int)=low:=by omega
    by_cases h2:v=high
    ·subst h2;simp only[a6g,if_neg h1,if_true]at hout
     (repeat first|simp only[ww]|(apply xa;simp+decide only[go_sem,c1,hp1,hp2,c2,hw];rfl;kernel_rfl))
     refine a1j (l.length-(i+1)) (by omega) ⟨_,_,b7g hV (by simp+decide only[go_sem]<;>rfl) (.inl (by simp+decide only[go_sem])),i+1,out,rfl,hlt,rfl,rfl,hout⟩
    ·have c3:¬(v:Int)=high:=by omega
     simp only[a6g,if_neg h1,if_neg h2]at hout
     (repeat first|simp only[ww]|(apply xa;simp+decide only[go_sem,c1,hp1,hp2,c2,c3,hw];rfl;kernel_rfl))
     refine a1j (l.length-(i+1)) (by omega) ⟨_,_,b7g hV (by simp+decide only[go_sem]<;>rfl) (.inl (by simp+decide only[go_sem])),i+1,2,rfl,hlt,rfl,rfl,hout⟩
  ·obtain rfl:i=l.length:=by omega
   have c1:¬(l.length:Int)<l.length:=by omega
   rw[List.drop_length]at hout;simp only[a6g]at hout
   (repeat first|simp only[ww]|(apply xa;simp+decide only[go_sem,c1];rfl;kernel_rfl))
   refine b83 (vs:=[.int .u8 out]) (r:=(_,_)) (by simp+decide only[go_sem]) (a1m hV rfl) ?_;rw[←hout];rfl
theorem b1n{l:List Nat}{V:AV}{H:a02}(hV:RA l V H)(hl:l.length<1000000){d:Bool}(low high:Nat){a b:Int}(ha:a=low)(hb:b=high):a0a L.env d (sem L.env Mf) (.func (.func 149) [] []) [V,.int .u8 a,.int .u8 b] H=some (.int .u8 (a6g low high high l:Nat),H,refs V):=by subst ha;subst hb;exact a5r hV (pre:=[]) (post:=[.int .u8 low,.int .u8 high]) (by kernel_rfl) (by kernel_rfl) rfl rfl rfl (λV H hV=>c62 l V H hV hl low high)
theorem d8o(l:List Nat)(V:AV)(H:a02)(hV:RA l V H)(hl:l.length<1000000):sem L.env Mf 109 [V] H=some (.int .u8 (a6g 0 1 1 l:Nat),H):=by
 have hc:=b1n hV hl (d:=false) 0 1 (a:=0) (b:=1) rfl rfl;generalize a6g 0 1 1 l=w at hc
 (refine sv Tryz.f109 ?_;simp only[Tryz.f109,gS])
 (repeat first|simp only[ww]|(apply xa;simp+decide only[go_sem,hc];rfl;kernel_rfl))
 refine a7k (vs:=[.int .u8 w]) (by simp+decide only[go_sem]) (a1m hV rfl)
theorem c9a{l:List Nat}{V:AV}{H:a02}(hV:RA l V H)(hl:l.length<1000000){d:Bool}:a0a L.env d (sem L.env Mf) (.func (.func 109) [] []) [V] H=some (.int .u8 (a6g 0 1 1 l:Nat),H,refs V):=a5r hV (pre:=[]) (post:=[]) (by kernel_rfl) (by kernel_rfl) rfl rfl rfl (λV H hV=>d8o l V H hV hl)
theorem e3f(l:List Nat)(V:AV)(H:a02)(hV:RA l V H)(hl:l.length<1000000):sem L.env Mf 110 [V] H=some (.int .u8 (a6g 1 0 0 l:Nat),H):=by
 have hc:=b1n hV hl (d:=false) 1 0 (a:=1) (b:=0) rfl rfl;generalize a6g 1 0 0 l=w at hc
 (refine sv Tryz.f110 ?_;simp only[Tryz.f110,gS])
 (repeat first|simp only[ww]|(apply xa;simp+decide only[go_sem,hc];rfl;kernel_rfl))
 refine a7k (vs:=[.int .u8 w]) (by simp+decide only[go_sem]) (a1m hV rfl)
theorem d3a{l:List Nat}{V:AV}{H:a02}(hV:RA l V H)(hl:l.length<1000000){d:Bool}:a0a L.env d (sem L.env Mf) (.func (.func 110) [] []) [V] H=some (.int .u8 (a6g 1 0 0 l:Nat),H,refs V):=a5r hV (pre:=[]) (post:=[]) (by kernel_rfl) (by kernel_rfl) rfl rfl rfl (λV H hV=>e3f l V H hV hl)
theorem e71{a b:Nat}(ha:a≤1)(hb:b≤1):e8a .u8 (a:Int) (b:Int)=((a^^^b:Nat):Int)∧a^^^b≤1:=by
 have ha:a=0∨a=1:=by omega
 have hb:b=0∨b=1:=by omega
 rcases ha with rfl|rfl<;>rcases hb with rfl|rfl<;>exact⟨by decide,by decide⟩
theorem d8h(l:List Nat)(V:AV)(H:a02)(hV:RA l V H)(hl:l.length<1000000):sem L.env Mf 111 [V] H=some (.int .u8 (b57 0 l:Nat),H):=by
 have hlen:=b9e hV
 suffices hs:∃r:AV×a02,(r=(.int .u8 (b57 0 l:Nat),H))∧sem L.env Mf 111 [V] H=some r by obtain⟨r,rfl,h3⟩:=hs;exact h3
 (refine svE Tryz.f111 ?_;simp only[Tryz.f111,gS])
 (repeat first|simp only[ww]|(apply xa;simp+decide only[go_sem,hlen];rfl;kernel_rfl))
 refine a4j kp111_0 (λn F H1=>∃(i out:Nat),n=l.length-i∧i≤l.length∧out≤1∧F=[(3,.int .u8 out),(6,V),(7,.int .i64 l.length),(8,.int .i64 i)]∧H1=H∧b57 out (l.drop i)=b57 0 l) l.length ?_ ?_
 ·exact⟨_,_,b7g hV (by simp+decide only[go_sem]<;>rfl) (.inl (by simp+decide only[go_sem])),0,0,rfl,Nat.zero_le _,by omega,rfl,rfl,rfl⟩
 ·rintro n F H1 ⟨i,out,rfl,hi,ho,rfl,rfl,hout⟩
  by_cases hlt:i<l.length
  ·obtain⟨v,hv⟩:∃v,l[i]?=some v:=⟨_,z9e hlt⟩
   obtain⟨p,hp1,hp2⟩:=b9f hV hv;have hd:l.drop i=v::l.drop (i+1):=by rw[←List.getElem_cons_drop hlt,(List.getElem?_eq_some_iff.1 hv).2]
   rw[hd]at hout;have c1:(i:Int)<l.length:=by omega
   have hw:=wI1 (n:=i) (by omega);have hk:=λH=>b3f (d:=false) H v;by_cases h1:v≤1
   ·obtain⟨hx,hx1⟩:=e71 ho h1;simp only[b57,if_pos h1]at hout
    (repeat first|simp only[ww]|(apply xa;simp+decide only[go_sem,c1,hp1,hp2,hk,h1,hx,hw];rfl;kernel_rfl))
    refine a1j (l.length-(i+1)) (by omega) ⟨_,_,b7g hV (by simp+decide only[go_sem]<;>rfl) (.inl (by simp+decide only[go_sem])),i+1,out^^^v,rfl,hlt,hx1,rfl,rfl,hout⟩
   ·simp only[b57,if_neg h1]at hout
    (repeat first|simp only[ww]|(apply xa;simp+decide only[go_sem,c1,hp1,hp2,hk,h1];rfl;kernel_rfl))
    refine a2v (vs:=[.int .u8 2]) (r:=(_,_)) (by simp+decide only[go_sem]) (a1m hV rfl) ?_;rw[←hout];rfl
  ·obtain rfl:i=l.length:=by omega
   have c1:¬(l.length:Int)<l.length:=by omega
   rw[List.drop_length]at hout;simp only[b57]at hout
   (repeat first|simp only[ww]|(apply xa;simp+decide only[go_sem,c1];rfl;kernel_rfl))
   refine b83 (vs:=[.int .u8 out]) (r:=(_,_)) (by simp+decide only[go_sem]) (a1m hV rfl) ?_;rw[←hout];rfl
theorem c8w{l:List Nat}{V:AV}{H:a02}(hV:RA l V H)(hl:l.length<1000000){d:Bool}:a0a L.env d (sem L.env Mf) (.func (.func 111) [] []) [V] H=some (.int .u8 (b57 0 l:Nat),H,refs V):=a5r hV (pre:=[]) (post:=[]) (by kernel_rfl) (by kernel_rfl) rfl rfl rfl (λV H hV=>d8h l V H hV hl)
set_option maxHeartbeats 200000000
def b4z(p:Nat→Bool)(l:List Nat):Int:=match l.findIdx? p with
 |some i=>i
 |none=>-1
theorem c3p{p:Nat→Bool}{l:List Nat}{i v:Nat}(hv:l[i]?=some v)(hp:p v=true)(hb:∀(j w:Nat),j<i→l[j]?=some w→p w=false):b4z p l=i:=by
 have hlt:=(List.getElem?_eq_some_iff.1 hv).1;have:l.findIdx? p=some i:=by rw[List.findIdx?_eq_some_iff_getElem];refine⟨hlt,by rw[(List.getElem?_eq_some_iff.1 hv).2];exact hp,λj hj=>?_⟩;have:=hb j _ hj (z9e (by omega));simp[this]
 unfold b4z;rw[this]
theorem c03{p:Nat→Bool}{l:List Nat}(hb:∀(j w:Nat),j<l.length→l[j]?=some w→p w=false):b4z p l = -1:=by
 have:l.findIdx? p=none:=by rw[List.findIdx?_eq_none_iff];intro x hx;obtain⟨j,hj⟩:=List.mem_iff_getElem?.1 hx;exact hb j x (List.getElem?_eq_some_iff.1 hj).1 hj
 unfold b4z;rw[this]
theorem c9v(p:Nat→Bool)(l:List Nat):decide (0≤b4z p l)=l.any p:=by
 unfold b4z;cases h:l.findIdx? p with
 |none=>
  have:=List.findIdx?_eq_none_iff.1 h;have e:l.any p=false:=by rw[List.any_eq_false];intro x hx;simp[this x hx]
  rw[e];rfl
 |some i=>obtain⟨hi,hp,_⟩:=List.findIdx?_eq_some_iff_getElem.1 h;have e:l.any p=true:=List.any_eq_true.2 ⟨_,List.getElem_mem hi,hp⟩;rw[e];simp
theorem d3c(l:List Nat)(V:AV)(H:a02)(hV:RA l V H)(hl:l.length<1000000)(f:AV)(p:Nat→Bool)(hf0:refs f=[])(hf:∀(d:Bool) (H:a02) (v:Nat),a0a L.env d (sem L.env Mf) f [.int .u8 v] H=some (.bool (p v),H,[])) :
 sem L.env Mf 139 [V,f] H=some (.int .i64 (b4z p l),H):=by
 have hlen:=b9e hV
 suffices hs:∃r:AV×a02,(r=(.int .i64 (b4z p l),H))∧sem L.env Mf 139 [V,f] H=some r by obtain⟨r,rfl,h3⟩:=hs;exact h3
 (refine svE Tryz.f139 ?_;simp only[Tryz.f139,gS])
 (repeat first|simp only[ww]|(apply xa;simp+decide only[go_sem,hlen];rfl;kernel_rfl))
 refine a4j kp139_0 (λn F H1=>∃(i:Nat),n=l.length-i∧i≤l.length∧F=[(0,V),(1,f),(7,.int .i64 l.length),(8,.int .i64 i)]∧H1=H∧∀(j w:Nat),j<i→l[j]?=some w→p w=false) l.length ?_ ?_
 ·exact⟨_,_,b7g hV (by simp+decide only[go_sem]<;>rfl) (.inl (by simp+decide only[go_sem,hf0])),0,rfl,Nat.zero_le _,rfl,rfl,λj w hj=>by omega⟩
 ·rintro n F H1 ⟨i,rfl,hi,rfl,rfl,hb⟩
  by_cases hlt:i<l.length
  ·obtain⟨v,hv⟩:∃v,l[i]?=some v:=⟨_,z9e hlt⟩
   obtain⟨q,hp1,hp2⟩:=b9f hV hv;have c1:(i:Int)<l.length:=by omega
   have hw:=wI1 (n:=i) (by omega);have hc:=λd H=>hf d H v;cases hpv:p v with
   |true=>
    rw[hpv]at hc
    (repeat first|simp only[ww]|(apply xa;simp+decide only[go_sem,c1,hp1,hp2,hc];rfl;kernel_rfl))
    refine a2v (vs:=[.int .i64 i]) (r:=(_,_)) (by simp+decide only[go_sem]) (a1m hV rfl) ?_;rw[c3p hv hpv hb];rfl
   |false=>
    rw[hpv]at hc
    (repeat first|simp only[ww]|(apply xa;simp+decide only[go_sem,c1,hp1,hp2,hc,hw];rfl;kernel_rfl))
    refine a1j (l.length-(i+1)) (by omega) ⟨_,_,b7g hV (by simp+decide only[go_sem]<;>rfl) (.inl (by simp+decide only[go_sem,hf0])),i+1,rfl,hlt,rfl,rfl,λj w hj hjw=>?_⟩;by_cases hji:j=i
    ·subst hji;rw[hv]at hjw;cases hjw;exact hpv
    ·exact hb j w (by omega) hjw
  ·obtain rfl:i=l.length:=by omega
   have c1:¬(l.length:Int)<l.length:=by omega
   (repeat first|simp only[ww]|(apply xa;simp+decide only[go_sem,c1];rfl;kernel_rfl))
   refine a2v (vs:=[.int .i64 (-1)]) (r:=(_,_)) (by simp+decide only[go_sem]) (a1m hV rfl) ?_;rw[c03 hb];rfl
theorem b64{l:List Nat}{V:AV}{H:a02}(hV:RA l V H)(hl:l.length<1000000){d:Bool}(f:AV)(p:Nat→Bool)(hf0:refs f=[])(hf:∀(d:Bool) (H:a02) (v:Nat),a0a L.env d (sem L.env Mf) f [.int .u8 v] H=some (.bool (p v),H,[])) :
 a0a L.env d (sem L.env Mf) (.func (.func 139) [] []) [V,f] H=some (.int .i64 (b4z p l),H,refs V):=
 a5r hV (pre:=[]) (post:=[f]) (by kernel_rfl) (by kernel_rfl) rfl (by simp only[a07,a12,hf0,List.append_nil]) rfl (λV H hV=>d3c l V H hV hl f p hf0 hf)
theorem c97(l:List Nat)(V:AV)(H:a02)(hV:RA l V H)(hl:l.length<1000000)(f:AV)(p:Nat→Bool)(hf0:refs f=[])(hf:∀(d:Bool) (H:a02) (v:Nat),a0a L.env d (sem L.env Mf) f [.int .u8 v] H=some (.bool (p v),H,[])) :
 sem L.env Mf 92 [V,f] H=some (.bool (l.any p),H):=by
 have hc:=λd=>b64 hV hl (d:=d) f p hf0 hf;have he:=c9v p l;generalize b4z p l=x at hc he;rw[←he]
 (refine sv Tryz.f92 ?_;simp only[Tryz.f92,gS])
 (repeat first|simp only[ww]|(apply xa;simp+decide only[go_sem,hc];rfl;kernel_rfl))
 refine a7k (vs:=[.bool _]) (by simp+decide only[go_sem]<;>rfl) (a1m hV rfl)
theorem c23{l:List Nat}{V:AV}{H:a02}(hV:RA l V H)(hl:l.length<1000000){d:Bool}(f:AV)(p:Nat→Bool)(hf0:refs f=[])(hf:∀(d:Bool) (H:a02) (v:Nat),a0a L.env d (sem L.env Mf) f [.int .u8 v] H=some (.bool (p v),H,[])) :
 a0a L.env d (sem L.env Mf) (.func (.func 92) [] []) [V,f] H=some (.bool (l.any p),H,refs V):=
 a5r hV (pre:=[]) (post:=[f]) (by kernel_rfl) (by kernel_rfl) rfl (by simp only[a07,a12,hf0,List.append_nil]) rfl (λV H hV=>c97 l V H hV hl f p hf0 hf)
theorem d8m(l:List Nat)(V:AV)(H:a02)(hV:RA l V H)(hl:l.length<1000000)(w:Nat):sem L.env Mf 223 [V,.int .u8 w] H=some (.int .i64 (b4z (λv=>decide (w=v)) l),H):=by
 have hlen:=b9e hV
 suffices hs:∃r:AV×a02,(r=(.int .i64 (b4z (λv=>decide (w=v)) l),H))∧sem L.env Mf 223 [V,.int .u8 w] H=some r by obtain⟨r,rfl,h3⟩:=hs;exact h3
 (refine svE Tryz.f223 ?_;simp only[Tryz.f223,gS])
 (repeat first|simp only[ww]|(apply xa;simp+decide only[go_sem,hlen];rfl;kernel_rfl))
 refine a4j kp223_0 (λn F H1=>∃(i:Nat),n=l.length-i∧i≤l.length∧F=[(0,V),(1,.int .u8 w),(7,.int .i64 l.length),(8,.int .i64 i)]∧H1=H∧∀(j v:Nat),j<i→l[j]?=some v→decide (w=v)=false) l.length ?_ ?_
 ·exact⟨_,_,b7g hV (by simp+decide only[go_sem]<;>rfl) (.inl (by simp+decide only[go_sem])),0,rfl,Nat.zero_le _,rfl,rfl,λj w hj=>by omega⟩
 ·rintro n F H1 ⟨i,rfl,hi,rfl,rfl,hb⟩
  by_cases hlt:i<l.length
  ·obtain⟨v,hv⟩:∃v,l[i]?=some v:=⟨_,z9e hlt⟩
   obtain⟨q,hp1,hp2⟩:=b9f hV hv;have c1:(i:Int)<l.length:=by omega
   have hw:=wI1 (n:=i) (by omega);by_cases hwv:w=v
   ·subst hwv
    (repeat first|simp only[ww]|(apply xa;simp+decide only[go_sem,c1,hp1,hp2];rfl;kernel_rfl))
    refine a2v (vs:=[.int .i64 i]) (r:=(_,_)) (by simp+decide only[go_sem]) (a1m hV rfl) ?_;rw[c3p hv (by simp) hb];rfl
   ·have c2:¬(w:Int)=v:=by omega
    (repeat first|simp only[ww]|(apply xa;simp+decide only[go_sem,c1,hp1,hp2,c2,hw];rfl;kernel_rfl))
    refine a1j (l.length-(i+1)) (by omega) ⟨_,_,b7g hV (by simp+decide only[go_sem]<;>rfl) (.inl (by simp+decide only[go_sem])),i+1,rfl,hlt,rfl,rfl,λj u hj hju=>?_⟩;by_cases hji:j=i
    ·subst hji;rw[hv]at hju;cases hju;simpa using hwv
    ·exact hb j u (by omega) hju
  ·obtain rfl:i=l.length:=by omega
   have c1:¬(l.length:Int)<l.length:=by omega
   (repeat first|simp only[ww]|(apply xa;simp+decide only[go_sem,c1];rfl;kernel_rfl))
   refine a2v (vs:=[.int .i64 (-1)]) (r:=(_,_)) (by simp+decide only[go_sem]) (a1m hV rfl) ?_;rw[c03 hb];rfl
theorem c94{l:List Nat}{V:AV}{H:a02}(hV:RA l V H)(hl:l.length<1000000){d:Bool}(w:Nat):a0a L.env d (sem L.env Mf) (.func (.func 223) [] []) [V,.int .u8 w] H=some (.int .i64 (b4z (λv=>decide (w=v)) l),H,refs V):=a5r hV (pre:=[]) (post:=[.int .u8 w]) (by kernel_rfl) (by kernel_rfl) rfl rfl rfl (λV H hV=>d8m l V H hV hl w)
theorem d3d(l:List Nat)(V:AV)(H:a02)(hV:RA l V H)(hl:l.length<1000000)(w:Nat):sem L.env Mf 195 [V,.int .u8 w] H=some (.bool (decide (w∈l)),H):=by
 have hc:=λd=>c94 hV hl (d:=d) w;have he:=c9v (λv=>decide (w=v)) l;have hm:(l.any λv=>decide (w=v))=decide (w∈l):=by rw[Bool.eq_iff_iff,List.any_eq_true,decide_eq_true_eq];exact⟨λ⟨x,hx,h⟩=>by rw[of_decide_eq_true h];exact hx,λh=>⟨w,h,by simp⟩⟩
 rw[hm]at he;generalize b4z (λv=>decide (w=v)) l=x at hc he;rw[←he]
 (refine sv Tryz.f195 ?_;simp only[Tryz.f195,gS])
 (repeat first|simp only[ww]|(apply xa;simp+decide only[go_sem,hc];rfl;kernel_rfl))
 refine a7k (vs:=[.bool _]) (by simp+decide only[go_sem]<;>rfl) (a1m hV rfl)
theorem b65{l:List Nat}{V:AV}{H:a02}(hV:RA l V H)(hl:l.length<1000000){d:Bool}(w:Nat){a:Int}(ha:a=w):a0a L.env d (sem L.env Mf) (.func (.func 195) [] []) [V,.int .u8 a] H=some (.bool (decide (w∈l)),H,refs V):=by subst ha;exact a5r hV (pre:=[]) (post:=[.int .u8 w]) (by kernel_rfl) (by kernel_rfl) rfl rfl rfl (λV H hV=>d3d l V H hV hl w)
theorem d3e(l:List Nat)(V:AV)(H:a02)(hV:RA l V H)(hl:l.length<1000000):sem L.env Mf 153 [V] H=some (.bool (decide (0∈l)&&decide (1∈l)),H):=by
 have h0:=λd=>b65 hV hl (d:=d) 0 (a:=0) rfl;have h1:=λd=>b65 hV hl (d:=d) 1 (a:=1) rfl;generalize decide (1∈l)=y at h1;cases hx:decide (0∈l)with
 |true=>
  rw[hx]at h0
  (refine sv Tryz.f153 ?_;simp only[Tryz.f153,gS])
  (repeat first|simp only[ww]|(apply xa;simp+decide only[go_sem,h0,h1];rfl;kernel_rfl))
  refine a7k (vs:=[.bool y]) (by simp+decide only[go_sem]) (a1m hV rfl)
 |false=>
  rw[hx]at h0
  (refine sv Tryz.f153 ?_;simp only[Tryz.f153,gS])
  (repeat first|simp only[ww]|(apply xa;simp+decide only[go_sem,h0,h1];rfl;kernel_rfl))
  refine a7k (vs:=[.bool false]) (by simp+decide only[go_sem]) (a1m hV rfl)
theorem c5l{l:List Nat}{V:AV}{H:a02}(hV:RA l V H)(hl:l.length<1000000){d:Bool}:a0a L.env d (sem L.env Mf) (.func (.func 153) [] []) [V] H=some (.bool (decide (0∈l)&&decide (1∈l)),H,refs V):=a5r hV (pre:=[]) (post:=[]) (by kernel_rfl) (by kernel_rfl) rfl rfl rfl (λV H hV=>d3e l V H hV hl)
theorem c0e(v:Nat):sem L.env Mf 151 [.int .u8 v] []=some (.int .u8 (a4k v:Nat),[]):=by
 by_cases h:3<v
 ·have c:(3:Int)<v:=by omega
  rw[show a4k v=2 by simp[a4k,h]]
  (refine sv Tryz.f151 ?_;simp only[Tryz.f151,gS])
  (repeat first|simp only[ww]|(apply xa;simp+decide only[go_sem,c];rfl;kernel_rfl))
  (apply fqb;simp+decide only[go_sem]<;>rfl)
 ·have c:¬(3:Int)<v:=by omega
  rw[show a4k v=v by simp[a4k,h]]
  (refine sv Tryz.f151 ?_;simp only[Tryz.f151,gS])
  (repeat first|simp only[ww]|(apply xa;simp+decide only[go_sem,c];rfl;kernel_rfl))
  (apply fqb;simp+decide only[go_sem]<;>rfl)
theorem d3g(v:Nat):sem L.env Mf 150 [.int .u8 v] []=some (.bool (decide (a4k v=2)),[]):=by
 have hc:∀(d:Bool) H,a0a L.env d (sem L.env Mf) (.func (.func 151) [] []) [.int .u8 v] H=some (.int .u8 (a4k v:Nat),H,[]):=λd H=>a04 (by kernel_rfl) (by kernel_rfl) rfl rfl (c0e v) rfl;have e:decide (((a4k v:Nat):Int)=2)=decide (a4k v=2):=by rw[decide_eq_decide];omega
 generalize a4k v=w at hc e
 (refine sv Tryz.f150 ?_;simp only[Tryz.f150,gS])
 (repeat first|simp only[ww]|(apply xa;simp+decide only[go_sem,hc,e];rfl;kernel_rfl))
 (apply fqb;simp+decide only[go_sem]<;>rfl)
theorem d3f(v:Nat):sem L.env Mf 152 [.int .u8 v] []=some (.bool (decide (v≠3)),[]):=by
 have e:(!decide ((v:Int)=3))=decide (v≠3):=by
  by_cases h:v=3
  ·subst h;rfl
  ·have:¬(v:Int)=3:=by omega
   simp[h,this]
 (refine sv Tryz.f152 ?_;simp only[Tryz.f152,gS])
 (repeat first|simp only[ww]|(apply xa;simp+decide only[go_sem,e];rfl;kernel_rfl))
 (apply fqb;simp+decide only[go_sem]<;>rfl)
theorem d8n(l:List Nat)(V:AV)(H:a02)(hV:RA l V H)(hl:l.length<1000000):sem L.env Mf 114 [V] H=some (.int .u8 (d6c l:Nat),H):=by
 have h1:∀(d:Bool) (H:a02) (v:Nat),a0a L.env d (sem L.env Mf) (.func (.func 150) [] []) [.int .u8 v] H=some (.bool (decide (a4k v=2)),H,[]):=λd H v=>a04 (by kernel_rfl) (by kernel_rfl) rfl rfl (d3g v) rfl;have h2:∀(d:Bool) (H:a02) (v:Nat),a0a L.env d (sem L.env Mf) (.func (.func 152) [] []) [.int .u8 v] H=some (.bool (decide (v≠3)),H,[]):=λd H v=>a04 (by kernel_rfl) (by kernel_rfl) rfl rfl (d3f v) rfl;have c1:=λd=>b64 hV hl (d:=d) _ (λv=>decide (v≠3)) rfl h2;have c2:=λd=>c23 hV hl (d:=d) _ (λv=>decide (a4k v=2)) rfl h1;have c3:=λd=>c5l hV hl (d:=d);unfold d6c;unfold b4z at c1;cases hf:l.findIdx? (λv=>decide (v≠3))with
 |none=>
  rw[hf]at c1;dsimp only at c1⊢
  (refine sv Tryz.f114 ?_;simp only[Tryz.f114,gS])
  (repeat first|simp only[ww]|(apply xa;simp+decide only[go_sem,c1];rfl;kernel_rfl))
  refine a7k (vs:=[.int .u8 3]) (by simp+decide only[go_sem]) (a1m hV rfl)
 |some i=>
  rw[hf]at c1;dsimp only at c1⊢;have hi:=(List.findIdx?_eq_some_iff_getElem.1 hf).1;obtain⟨v,hv⟩:∃v,l[i]?=some v:=⟨_,z9e hi⟩
  obtain⟨q,hp1,hp2⟩:=b9f hV hv;have hg:l.getD i 0=v:=by rw[List.getD,hv];rfl
  have c0:¬(i:Int)<0:=by omega
  rw[hg];generalize(decide (0∈l)&&decide (1∈l))=x at c3⊢;generalize(l.any λv=>decide (a4k v=2))=y at c2⊢;cases x with
  |true=>
   (refine sv Tryz.f114 ?_;simp only[Tryz.f114,gS])
   (repeat first|simp only[ww]|(apply xa;simp+decide only[go_sem,c1,c2,c3,c0];rfl;kernel_rfl))
   refine a7k (vs:=[.int .u8 2]) (by simp+decide only[go_sem]) (a1m hV rfl)
  |false=>cases y with
   |true=>
    (refine sv Tryz.f114 ?_;simp only[Tryz.f114,gS])
    (repeat first|simp only[ww]|(apply xa;simp+decide only[go_sem,c1,c2,c3,c0];rfl;kernel_rfl))
    refine a7k (vs:=[.int .u8 2]) (by simp+decide only[go_sem]) (a1m hV rfl)
   |false=>
    (refine sv Tryz.f114 ?_;simp only[Tryz.f114,gS])
    (repeat first|simp only[ww]|(apply xa;simp+decide only[go_sem,c1,c2,c3,c0,hp1,hp2];rfl;kernel_rfl))
    refine a7k (vs:=[.int .u8 v]) (by simp+decide only[go_sem]) (a1m hV rfl)
theorem c99{l:List Nat}{V:AV}{H:a02}(hV:RA l V H)(hl:l.length<1000000){d:Bool}:a0a L.env d (sem L.env Mf) (.func (.func 114) [] []) [V] H=some (.int .u8 (d6c l:Nat),H,refs V):=a5r hV (pre:=[]) (post:=[]) (by kernel_rfl) (by kernel_rfl) rfl rfl rfl (λV H hV=>d8n l V H hV hl)
theorem d65{l:List Nat}{V:AV}{H:a02}(h:RA l V H):a0i V=[]∨a0i V=[0]:=by
 cases h with
 |imm r=>exact .inl (by simp only[go_sem])
 |blk c rest hf=>exact .inr rfl
theorem d7v{l:List Nat}{V:AV}{H:a02}(h:RA l V H){i v:Nat}(hi:l[i]?=some v):∃p,a0w L.env (a01 H) 52 V (.int .i64 i)=some p∧a64 L.env (a01 H) 53 p=some (.int .u8 v)∧a0i p=a0i V:=by
 have hlt:=(List.getElem?_eq_some_iff.1 hi).1;cases h with
 |imm r=>exact⟨_,by simp+decide only[go_sem,hi,hlt]<;>rfl,by simp+decide only[go_sem,hi,hlt],by simp+decide only[go_sem]⟩
 |blk c rest hf=>
  have hg:(l.map u8R++rest)[i]?=some [.int .u8 v]:=by rw[List.getElem?_append_left (by simpa using hlt),List.getElem?_map,hi];rfl
  have hl2:i<(l.map u8R++rest).length:=by simp;omega
  exact⟨_,by simp+decide only[go_sem,hg,hlt,hl2]<;>rfl,by simp+decide only[go_sem,hg,hlt,hl2],by simp+decide only[go_sem]⟩
theorem b7q(k:Nat)(hk:k<16)(l:List Nat)(V:AV)(H:a02)(hV:RA l V H)(hl:l.length<1000000):sem L.env Mf 62 [.int .u8 k,V] H=some (.int .u8 (a3v k l:Nat),H):=by
 have hf:=λd H=>b6g (d:=d) H k hk;have hlen:=b9e hV;by_cases hlo:l.length<a23 k
 ·have c1:(l.length:Int)<a23 k:=by omega
  rw[show a3v k l=2 by simp[a3v,hlo]]
  (refine sv Tryz.f62 ?_;simp only[Tryz.f62,gS])
  (repeat first|simp only[ww]|(apply xa;simp+decide only[go_sem,hf,c1,hlen];rfl;kernel_rfl))
  refine a7k (vs:=[.int .u8 2]) (by simp+decide only[go_sem]) (a1m hV rfl)
 have c1:¬(l.length:Int)<a23 k:=by omega
 by_cases hhi:a24 k<l.length
 ·have c2:(a24 k:Int)<l.length:=by omega
  rw[show a3v k l=2 by simp[a3v,hhi]]
  (refine sv Tryz.f62 ?_;simp only[Tryz.f62,gS])
  (repeat first|simp only[ww]|(apply xa;simp+decide only[go_sem,hf,c1,c2,hlen];rfl;kernel_rfl))
  refine a7k (vs:=[.int .u8 2]) (by simp+decide only[go_sem]) (a1m hV rfl)
 have c2:¬(a24 k:Int)<l.length:=by omega
 rw[show a3v k l=a4b k l by unfold a3v;rw[if_neg (by omega)]];have lo:a23 k≤l.length:=by omega
 clear hlo hhi;have g:∀(i:Nat) (j:Int),j=i→i<a23 k→∃v p,l.getD i 2=v∧a0w L.env (a01 H) 52 V (.int .i64 j)=some p∧a64 L.env (a01 H) 53 p=some (.int .u8 v)∧a0i p=a0i V:=by
  intro i j hj hi;subst hj;obtain⟨v,hv⟩:∃v,l[i]?=some v:=⟨_,z9e (by omega)⟩
  obtain⟨p,h1,h2,h3⟩:=d7v hV hv;exact⟨v,p,by rw[List.getD,hv];rfl,h1,h2,h3⟩
 have ca:=λ(d:Bool)=>c9a hV hl (d:=d);have co:=λ(d:Bool)=>d3a hV hl (d:=d);have cx:=λ(d:Bool)=>c8w hV hl (d:=d);have cb:=λ(d:Bool)=>c99 hV hl (d:=d);have cn:=λ(d:Bool) (H:a02) (v:Nat)=>c91 (d:=d) H v;have cr:=λ(d:Bool) (H:a02) (v:Nat)=>a6o (d:=d) H v;have cm:=λ(d:Bool) (H:a02) (s a b:Nat)=>c92 (d:=d) H s a b;have ct:=λ(d:Bool) (H:a02) (a b:Nat)=>c8x (d:=d) H a b;have hkk:k=0∨k=1∨k=2∨k=3∨k=4∨k=5∨k=6∨k=7∨k=8∨k=9∨k=10∨k=11∨k=12∨k=13∨k=14∨k=15:=by omega
 (refine sv Tryz.f62 ?_;simp only[Tryz.f62,gS])
 (repeat first|simp only[ww]|(apply xa;simp+decide only[go_sem,hf,c1,c2,hlen];rfl;kernel_rfl))
 rcases hkk with rfl|rfl|rfl|rfl|rfl|rfl|rfl|rfl|rfl|rfl|rfl|rfl|rfl|rfl|rfl|rfl
 ·rw[show a4b 0 l=2 from rfl]
  (repeat first|simp only[ww]|(apply xa;simp+decide only[go_sem];rfl;kernel_rfl))
  exact a7k (vs:=[.int .u8 _]) (by simp+decide only[go_sem]<;>rfl) (a1m hV rfl)
 ·rw[show a4b 1 l=0 from rfl]
  (repeat first|simp only[ww]|(apply xa;simp+decide only[go_sem];rfl;kernel_rfl))
  exact a7k (vs:=[.int .u8 _]) (by simp+decide only[go_sem]<;>rfl) (a1m hV rfl)
 ·rw[show a4b 2 l=1 from rfl]
  (repeat first|simp only[ww]|(apply xa;simp+decide only[go_sem];rfl;kernel_rfl))
  exact a7k (vs:=[.int .u8 _]) (by simp+decide only[go_sem]<;>rfl) (a1m hV rfl)
 ·obtain⟨v0,p0,e0,a0,b0,t0⟩:=g 0 0 rfl (by decide);rw[show a4b 3 l=a58 (l.getD 0 2)from rfl,e0]
  (repeat first|simp only[ww]|(apply xa;simp+decide only[go_sem,cr,a0,b0];rfl;kernel_rfl))
  exact a7k (vs:=[.int .u8 _]) (by simp+decide only[go_sem]<;>rfl) (a1m hV rfl)
 ·obtain⟨v0,p0,e0,a0,b0,t0⟩:=g 0 0 rfl (by decide);rw[show a4b 4 l=b24 (l.getD 0 2)from rfl,e0]
  (repeat first|simp only[ww]|(apply xa;simp+decide only[go_sem,cn,a0,b0];rfl;kernel_rfl))
  exact a7k (vs:=[.int .u8 _]) (by simp+decide only[go_sem]<;>rfl) (a1m hV rfl)
 ·rw[show a4b 5 l=a6g 0 1 1 l from rfl]
  (repeat first|simp only[ww]|(apply xa;simp+decide only[go_sem,ca];rfl;kernel_rfl))
  exact a7k (vs:=[.int .u8 _]) (by simp+decide only[go_sem]<;>rfl) (a1m hV rfl)
 ·rw[show a4b 6 l=b24 (a6g 0 1 1 l)from rfl]
  (repeat first|simp only[ww]|(apply xa;simp+decide only[go_sem,ca,cn];rfl;kernel_rfl))
  exact a7k (vs:=[.int .u8 _]) (by simp+decide only[go_sem]<;>rfl) (a1m hV rfl)
 ·rw[show a4b 7 l=a6g 1 0 0 l from rfl]
  (repeat first|simp only[ww]|(apply xa;simp+decide only[go_sem,co];rfl;kernel_rfl))
  exact a7k (vs:=[.int .u8 _]) (by simp+decide only[go_sem]<;>rfl) (a1m hV rfl)
 ·rw[show a4b 8 l=b24 (a6g 1 0 0 l)from rfl]
  (repeat first|simp only[ww]|(apply xa;simp+decide only[go_sem,co,cn];rfl;kernel_rfl))
  exact a7k (vs:=[.int .u8 _]) (by simp+decide only[go_sem]<;>rfl) (a1m hV rfl)
 ·rw[show a4b 9 l=b57 0 l from rfl]
  (repeat first|simp only[ww]|(apply xa;simp+decide only[go_sem,cx];rfl;kernel_rfl))
  exact a7k (vs:=[.int .u8 _]) (by simp+decide only[go_sem]<;>rfl) (a1m hV rfl)
 ·rw[show a4b 10 l=b24 (b57 0 l)from rfl]
  (repeat first|simp only[ww]|(apply xa;simp+decide only[go_sem,cx,cn];rfl;kernel_rfl))
  exact a7k (vs:=[.int .u8 _]) (by simp+decide only[go_sem]<;>rfl) (a1m hV rfl)
 ·obtain⟨v0,p0,e0,a0,b0,t0⟩:=g 0 0 rfl (by decide);obtain⟨v1,p1,e1,a1,b1,t1⟩:=g 1 1 rfl (by decide);obtain⟨v2,p2,e2,a2,b2,t2⟩:=g 2 2 rfl (by decide);rw[show a4b 11 l=b9m (l.getD 0 2) (l.getD 1 2) (l.getD 2 2)from rfl,e0,e1,e2];rcases d65 hV with htp|htp
  ·(repeat first|simp only[ww]|(apply xa;simp+decide only[go_sem,cm,a0,b0,a1,b1,a2,b2,t0,t1,t2,htp];rfl;kernel_rfl))
   exact a7k (vs:=[.int .u8 _]) (by simp+decide only[go_sem]<;>rfl) (a1m hV rfl)
  ·(repeat first|simp only[ww]|(apply xa;simp+decide only[go_sem,cm,a0,b0,a1,b1,a2,b2,t0,t1,t2,htp];rfl;kernel_rfl))
   exact a7k (vs:=[.int .u8 _]) (by simp+decide only[go_sem]<;>rfl) (a1m hV rfl)
 ·obtain⟨v0,p0,e0,a0,b0,t0⟩:=g 0 0 rfl (by decide);obtain⟨v1,p1,e1,a1,b1,t1⟩:=g 1 1 rfl (by decide);rw[show a4b 12 l=c1w (l.getD 0 2) (l.getD 1 2)from rfl,e0,e1];rcases d65 hV with htp|htp
  ·(repeat first|simp only[ww]|(apply xa;simp+decide only[go_sem,ct,a0,b0,a1,b1,t0,t1,htp];rfl;kernel_rfl))
   exact a7k (vs:=[.int .u8 _]) (by simp+decide only[go_sem]<;>rfl) (a1m hV rfl)
  ·(repeat first|simp only[ww]|(apply xa;simp+decide only[go_sem,ct,a0,b0,a1,b1,t0,t1,htp];rfl;kernel_rfl))
   exact a7k (vs:=[.int .u8 _]) (by simp+decide only[go_sem]<;>rfl) (a1m hV rfl)
 ·rw[show a4b 13 l=d6c l from rfl]
  (repeat first|simp only[ww]|(apply xa;simp+decide only[go_sem,cb];rfl;kernel_rfl))
  exact a7k (vs:=[.int .u8 _]) (by simp+decide only[go_sem]<;>rfl) (a1m hV rfl)
 ·rw[show a4b 14 l=2 from rfl]
  (repeat first|simp only[ww]|(apply xa;simp+decide only[go_sem];rfl;kernel_rfl))
  exact a7k (vs:=[.int .u8 _]) (by simp+decide only[go_sem]<;>rfl) (a1m hV rfl)
 ·rw[show a4b 15 l=2 from rfl]
  (repeat first|simp only[ww]|(apply xa;simp+decide only[go_sem];rfl;kernel_rfl))
  exact a7k (vs:=[.int .u8 _]) (by simp+decide only[go_sem]<;>rfl) (a1m hV rfl)
theorem c5j{l:List Nat}{V:AV}{H:a02}(hV:RA l V H)(hl:l.length<1000000){d:Bool}(k:Nat)(hk:k<16):a0a L.env d (sem L.env Mf) (.func (.func 62) [] []) [.int .u8 k,V] H=some (.int .u8 (a3v k l:Nat),H,refs V):=a5r hV (pre:=[.int .u8 k]) (post:=[]) (by kernel_rfl) (by kernel_rfl) rfl rfl rfl (λV H hV=>b7q k hk l V H hV hl)
theorem a2y(π:Nat→Option Nat)(l:List Nat):(l.map u8R).map (λr=>r.map (ren π))=l.map u8R:=a06 π (a2e l)
theorem a2m(l:List Nat):(l.map u8R).flatMap a0e=[]:=a08 (a2e l)
theorem d2f(c:Cir)(hc:c.wf)(p:Pat)(hp:PatOk c.nodes p)(N0:List Nat)(hN:N0.length=c.nodes.length) :
 sem L.env Mf 60 [.agg [sl c.nc (c.nodes.map Nd.enc),sl c.mc (c.names.map a1h),.nilslice,sl c.oc (c.outs.map a0h),.slice 0 0 c.nodes.length (some c.nodes.length)],.agg p.enc] [some (.row 1 (N0.map u8R))]=some (.tuple [],[some (.row 1 ((a1u (a1u N0 (kinds c.nodes 0) p.ins) (kinds c.nodes 14) p.sts).map u8R))]):=by
 have hnl:=hc.len;obtain⟨r0,e3⟩:=a4f (kinds c.nodes 0);obtain⟨r1,e4⟩:=a4f (kinds c.nodes 14);have hk0:=a3r c.nodes 0;have hk14:=a3r c.nodes 14;have hi:=λ(d:Bool) H=>a3w (d:=d) H c (by omega);have hs:=λ(d:Bool) H=>a5n (d:=d) H c (by omega);have hvi:=hp.ins;have hvs:=hp.sts;rw[e3]at hi;rw[e4]at hs;have hpe:Pat.enc p=[sl p.ic (p.ins.map u8R),sl p.sc (p.sts.map u8R)]:=rfl;rw[hpe];simp only[Cir.enc]at hi hs
 suffices hs:∃r:AV×a02,(r=(.tuple [],[some (.row 1 ((a1u (a1u N0 (kinds c.nodes 0) p.ins) (kinds c.nodes 14) p.sts).map u8R))]))∧sem L.env Mf 60 [.agg [sl c.nc (c.nodes.map Nd.enc),sl c.mc (c.names.map a1h),.nilslice,sl c.oc (c.outs.map a0h),.slice 0 0 c.nodes.length (some c.nodes.length)],.agg [sl p.ic (p.ins.map u8R),sl p.sc (p.sts.map u8R)]] [some (.row 1 (N0.map u8R))]=some r by obtain⟨r,rfl,h3⟩:=hs;exact h3
 (refine svE Tryz.f60 ?_;simp only[Tryz.f60,gS])
 (repeat first|simp only[ww]|(apply xa;simp+decide only[go_sem,hi];rfl;kernel_rfl))
 refine a0p (σ:=Nat) kp60_0 (λi=>[(2,.ptr 1 0 0),(3,.ptr 2 0 0),(10,sl r0 ((kinds c.nodes 0).map a0h)),(11,.int .i64 (kinds c.nodes 0).length),(12,.int .i64 i)])
  (λi=>[some (.row 1 ((a1u N0 ((kinds c.nodes 0).take i) (p.ins.take i)).map u8R)),some (.row 5 [[sl c.nc (c.nodes.map Nd.enc),sl c.mc (c.names.map a1h),.nilslice,sl c.oc (c.outs.map a0h),.slice 0 0 c.nodes.length (some c.nodes.length)]]),some (.row 2 [[sl p.ic (p.ins.map u8R),sl p.sc (p.sts.map u8R)]])]) (λi=>(kinds c.nodes 0).length-i) (λi=>i≤(kinds c.nodes 0).length) 0 ?_ (Nat.zero_le _) ?_
 ·rw[List.take_zero,List.take_zero,show a1u N0 [] []=N0 from rfl]
  (simp+decide only[go_sem,a03,a00,a2y,a2m]<;>rfl)<;>rfl
 ·intro i hi;have hll:=a4d ((kinds c.nodes 0).take i) (p.ins.take i) N0;rw[hN]at hll;by_cases hlt:i<(kinds c.nodes 0).length
  ·obtain⟨n,hn⟩:∃n,(kinds c.nodes 0)[i]?=some n:=⟨_,z9e hlt⟩
   obtain⟨w,hw⟩:∃w,p.ins[i]?=some w:=⟨_,z9e (by omega)⟩
   have hnn:=(a6p hn).1;have hst:=a8q (nets:=N0) hn hw;have c1:(i:Int)<(kinds c.nodes 0).length:=by omega
   have hwi:=wI1 (n:=i) (by omega);have hiv:i<p.ins.length:=by omega
   generalize a1u N0 ((kinds c.nodes 0).take i) (p.ins.take i)=N at hst hll;obtain⟨w0,hw0⟩:∃w,N[n]?=some w:=⟨_,z9e (by omega)⟩
   have hsR:(N.map u8R).set n [AV.int .u8 w]=(N.set n w).map u8R:=by rw[List.map_set];rfl
   (repeat first|simp only[ww]|(apply xa;simp+decide only[go_sem,c1,hlt,hn,hw,hnn,hwi,hiv,hll,hw0,hsR];rfl;kernel_rfl))
   refine a27 (i+1) ?_ (by omega) (by omega);rw[hst]
   (simp+decide only[go_sem,a03,a00,a2y,a2m]<;>rfl)<;>rfl
  have hie:i=(kinds c.nodes 0).length:=by omega
  subst hie;have c1:¬((kinds c.nodes 0).length:Int)<(kinds c.nodes 0).length:=by omega
  rw[List.take_length,List.take_of_length_le (by omega)]at hll⊢;generalize a1u N0 (kinds c.nodes 0) p.ins=N1 at hll⊢
  (repeat first|simp only[ww]|(apply xa;simp+decide only[go_sem,c1,hs];rfl;kernel_rfl))
  refine a0p (σ:=Nat) kp60_2 (λi=>[(2,.ptr 1 0 0),(3,.ptr 2 0 0),(29,sl r1 ((kinds c.nodes 14).map a0h)),(30,.int .i64 (kinds c.nodes 14).length),(31,.int .i64 i)])
   (λi=>[some (.row 1 ((a1u N1 ((kinds c.nodes 14).take i) (p.sts.take i)).map u8R)),some (.row 5 [[sl c.nc (c.nodes.map Nd.enc),sl c.mc (c.names.map a1h),.nilslice,sl c.oc (c.outs.map a0h),.slice 0 0 c.nodes.length (some c.nodes.length)]]),some (.row 2 [[sl p.ic (p.ins.map u8R),sl p.sc (p.sts.map u8R)]])]) (λi=>(kinds c.nodes 14).length-i) (λi=>i≤(kinds c.nodes 14).length) 0 ?_ (Nat.zero_le _) ?_
  ·rw[List.take_zero,List.take_zero,show a1u N1 [] []=N1 from rfl]
   (simp+decide only[go_sem,a03,a00,a2y,a2m]<;>rfl)<;>rfl
  ·intro i hi;have hll2:=a4d ((kinds c.nodes 14).take i) (p.sts.take i) N1;rw[hll]at hll2;by_cases hlt:i<(kinds c.nodes 14).length
   ·obtain⟨n,hn⟩:∃n,(kinds c.nodes 14)[i]?=some n:=⟨_,z9e hlt⟩
    obtain⟨w,hw⟩:∃w,p.sts[i]?=some w:=⟨_,z9e (by omega)⟩
    have hnn:=(a6p hn).1;have hst:=a8q (nets:=N1) hn hw;have c1:(i:Int)<(kinds c.nodes 14).length:=by omega
    have hwi:=wI1 (n:=i) (by omega);have hiv:i<p.sts.length:=by omega
    generalize a1u N1 ((kinds c.nodes 14).take i) (p.sts.take i)=N at hst hll2;obtain⟨w0,hw0⟩:∃w,N[n]?=some w:=⟨_,z9e (by omega)⟩
    have hsR:(N.map u8R).set n [AV.int .u8 w]=(N.set n w).map u8R:=by rw[List.map_set];rfl
    (repeat first|simp only[ww]|(apply xa;simp+decide only[go_sem,c1,hlt,hn,hw,hnn,hwi,hiv,hll2,hw0,hsR];rfl;kernel_rfl))
    refine a27 (i+1) ?_ (by omega) (by omega);rw[hst]
    (simp+decide only[go_sem,a03,a00,a2y,a2m]<;>rfl)<;>rfl
   have hie:i=(kinds c.nodes 14).length:=by omega
   subst hie;have c1:¬((kinds c.nodes 14).length:Int)<(kinds c.nodes 14).length:=by omega
   rw[List.take_length,List.take_of_length_le (by omega)]
   (repeat first|simp only[ww]|(apply xa;simp+decide only[go_sem,c1];rfl;kernel_rfl))
   refine b83 (vs:=[]) (r:=(_,[_])) (by simp+decide only[go_sem]) ?_ rfl;simp+decide only[go_sem,a2y]<;>rfl
def a2p:List Nat→AV
 | []=>.nilslice
 |v::r=>.islice ((v::r).map u8R) (some (r.length+1))
theorem a18(l:List Nat):refs (a2p l)=[]:=by cases l<;>rfl
def a9r(o x:List Nat):AV:=.agg [a2p o,a2p x]
theorem a5q(o x:List Nat):refs (a9r o x)=[]:=by simp only[a9r,a0s,a07,a18,a12,List.append_nil]
theorem c7b(c:Cir)(nets:List Nat)(hl:nets.length=c.nodes.length)(hv:∀v∈nets,v≤3)(n v:Nat)(hn:nets[n]?=some v):sem L.env Mf 115 [.agg [sl c.nc (c.nodes.map Nd.enc),sl c.mc (c.names.map a1h),.nilslice,sl c.oc (c.outs.map a0h),.slice 0 0 c.nodes.length (some c.nodes.length)],.int .i64 n] [some (.row 1 (nets.map u8R))]=some (.int .u8 v,[some (.row 1 (nets.map u8R))]):=by
 have hlt:=(List.getElem?_eq_some_iff.1 hn).1;have h0:¬(n:Int)<0:=by omega
 have h1:¬(c.nodes.length:Int)≤n:=by omega
 have h2:n<c.nodes.length:=by omega
 have hc:∀(d:Bool) H,a0a L.env d (sem L.env Mf) (.func (.func 151) [] []) [.int .u8 v] H=some (.int .u8 v,H,[]):=λd H=>by have:=a04 (E:=L.env) (draw:=d) (call:=sem L.env Mf) (fs:=[]) (cs:=[]) (ar:=[.int .u8 v]) (v:=.int .u8 (a4k v:Nat)) (H:=H) (g:=151) (by kernel_rfl) (by kernel_rfl) rfl rfl (c0e v) rfl;rw[c46 (hv v (List.mem_of_getElem? hn))]at this;exact this
 (refine sv Tryz.f115 ?_;simp only[Tryz.f115,gS])
 (repeat first|simp only[ww]|(apply xa;simp+decide only[go_sem,h0,h1,h2,hl,hn,hc];rfl;kernel_rfl))
 refine a7k (vs:=[.int .u8 v]) (by simp+decide only[go_sem]) ?_;simp+decide only[go_sem,a2y]<;>rfl
theorem c16{d:Bool}{H:a02}{b:Nat}(c:Cir)(nets:List Nat)(hl:nets.length=c.nodes.length)(hv:∀v∈nets,v≤3)(n v:Nat)(hn:nets[n]?=some v)(hb:a01 H b=some (.row 1 (nets.map u8R))) :
 a0a L.env d (sem L.env Mf) (.func (.func 115) [] []) [.agg [sl c.nc (c.nodes.map Nd.enc),sl c.mc (c.names.map a1h),.nilslice,sl c.oc (c.outs.map a0h),.slice b 0 c.nodes.length (some c.nodes.length)],.int .i64 n] H=some (.int .u8 v,H,[b]):=
 a30 (fs:=[]) (cs:=[]) (ar:=[.agg [sl c.nc (c.nodes.map Nd.enc),sl c.mc (c.names.map a1h),.nilslice,sl c.oc (c.outs.map a0h),.slice b 0 c.nodes.length (some c.nodes.length)],.int .i64 n]) (by kernel_rfl) (by kernel_rfl) rfl hb (a0m (a2e nets)) (FlatO.row (a2e nets)) (by simp only[List.nil_append,List.append_nil,go_sem]) (args':=[.agg [sl c.nc (c.nodes.map Nd.enc),sl c.mc (c.names.map a1h),.nilslice,sl c.oc (c.outs.map a0h),.slice 0 0 c.nodes.length (some c.nodes.length)],.int .i64 n]) (by simp only[List.nil_append,List.append_nil,List.map_cons,List.map_nil,c1o,a1y,b9b,a7t,c81]) (c7b c nets hl hv n v hn) rfl
theorem d4v(n:Nat)(rows:List (List AV))(hf:FlatR rows):sem L.env Mf 116 [.slice 0 0 n none] [some (.row 1 rows)]=some (.slice 0 0 n (some n),[some (.row 1 rows)]):=by
 have h1:=λπ=>a06 π hf
 (refine sv Tryz.f116 ?_;simp only[Tryz.f116,gS])
 (repeat first|simp only[ww]|(apply xa;simp+decide only[go_sem];rfl;kernel_rfl))
 (apply fqb;simp+decide only[go_sem,h1]<;>rfl)
theorem a8r{d:Bool}{H:a02}{b n:Nat}{rows:List (List AV)}(hf:FlatR rows)(hb:a01 H b=some (.row 1 rows)):a0a L.env d (sem L.env Mf) (.func (.func 116) [] []) [.slice b 0 n none] H=some (.slice b 0 n (some n),H,[b]):=by have h:=a40 (E:=L.env) (draw:=d) (call:=sem L.env Mf) (g:=116) (fs:=[]) (cs:=[]) (ar:=[.slice b 0 n none]) (H:=H) (b:=b) (by kernel_rfl) (by kernel_rfl) rfl hb (a0m hf) (FlatO.row hf) rfl (args':=[AV.slice 0 0 n none]) (by simp only[List.nil_append,List.append_nil,List.map_cons,List.map_nil,a1y]) (d4v n rows hf) (FlatO.row hf) (a4t b 0 _ n _);rw[a8g hb]at h;exact h
theorem d0v:sem L.env Mf 116 [.nilslice] []=some (.nilslice,[]):=by
 (refine sv Tryz.f116 ?_;simp only[Tryz.f116,gS])
 (repeat first|simp only[ww]|(apply xa;simp+decide only[go_sem];rfl;kernel_rfl))
 (apply fqb;simp+decide only[go_sem]<;>rfl)
theorem b49{d:Bool}(H:a02):a0a L.env d (sem L.env Mf) (.func (.func 116) [] []) [.nilslice] H=some (.nilslice,H,[]):=a04 (by kernel_rfl) (by kernel_rfl) rfl rfl d0v rfl
def a1q(nodes:List Nd)(nets:List Nat):List Nat:=(kinds nodes 14).map λn=>a58 (nets.getD ((a2k nodes n).getD 0 0) 0)
def a14(outs nets:List Nat):List Nat:=outs.map λn=>nets.getD n 0
theorem d7f(c:Cir)(hc:c.wf)(hO:c.outs≠[])(nets:List Nat)(hl:nets.length=c.nodes.length)(hv:∀v∈nets,v≤3):sem L.env Mf 63 [.agg [sl c.nc (c.nodes.map Nd.enc),sl c.mc (c.names.map a1h),.nilslice,sl c.oc (c.outs.map a0h),.slice 0 0 c.nodes.length (some c.nodes.length)]] [some (.row 1 (nets.map u8R))]=some (a9r (a14 c.outs nets) (a1q c.nodes nets),[some (.row 1 (nets.map u8R))]):=by
 have hnl:=hc.len;have hol:=hc.outl;obtain⟨r1,e4⟩:=a4f (kinds c.nodes 14);have hk14:=a3r c.nodes 14;have hs:=λ(d:Bool) H=>a5n (d:=d) H c (by omega);rw[e4]at hs;simp only[Cir.enc]at hs;have hval:=λ(d:Bool) (H:a02) (n v:Nat) (hn:nets[n]?=some v) (hb:a01 H 0=some (.row 1 (nets.map u8R)))=>c16 (d:=d) (H:=H) (b:=0) c nets hl hv n v hn hb;have hNf:=a2e nets;have n1:=a08 hNf;have n2:=λπ=>a06 π hNf
 suffices hs:∃r:AV×a02,(r=(a9r (a14 c.outs nets) (a1q c.nodes nets),[some (.row 1 (nets.map u8R))]))∧sem L.env Mf 63 [.agg [sl c.nc (c.nodes.map Nd.enc),sl c.mc (c.names.map a1h),.nilslice,sl c.oc (c.outs.map a0h),.slice 0 0 c.nodes.length (some c.nodes.length)]] [some (.row 1 (nets.map u8R))]=some r by obtain⟨r,rfl,h3⟩:=hs;exact h3
 (refine svE Tryz.f63 ?_;simp only[Tryz.f63,gS])
 generalize hNR:nets.map u8R=NR at hval hNf n1 n2
 (repeat first|simp only[ww]|(apply xa;simp+decide only[go_sem];rfl;kernel_rfl))
 refine a4j kp63_0 (λn F H=>∃i,n=c.outs.length-i∧i≤c.outs.length∧F=[(1,.ptr 1 0 0),(2,.ptr 2 0 0),(3,.ptr 3 0 0),(12,sl c.oc (c.outs.map a0h)),(13,.int .i64 c.outs.length),(14,.int .i64 i)]∧H=[some (.row 1 NR),some (.row 5 [[sl c.nc (c.nodes.map Nd.enc),sl c.mc (c.names.map a1h),.nilslice,sl c.oc (c.outs.map a0h),.slice 0 0 c.nodes.length (some c.nodes.length)]]),some (.row 2 [[.nilslice,.nilslice]]),some (.row 2 [[grV 4 ((a14 (c.outs.take i) nets).map u8R),.nilslice]])]++grH 1 ((a14 (c.outs.take i) nets).map u8R)) c.outs.length ?_ ?_
 ·refine⟨_,_,?_,0,rfl,Nat.zero_le _,rfl,rfl⟩;rw[List.take_zero,show a14 [] nets=[]from rfl]
  (simp+decide only[go_sem,a03,a00,a0t,a0u,List.map_nil,n1,n2]<;>rfl)<;>rfl
 ·rintro n F H ⟨i,rfl,hi,rfl,rfl⟩
  have hTl:((a14 (c.outs.take i) nets).map u8R).length=i:=by simp[a14];omega
  have hTf:=a2e (a14 (c.outs.take i) nets);by_cases hlt:i<c.outs.length
  ·obtain⟨o,ho⟩:∃o,c.outs[i]?=some o:=⟨_,z9e hlt⟩
   have hon:=hc.outs o (List.mem_of_getElem? ho);obtain⟨v,hnv⟩:∃v,nets[o]?=some v:=⟨_,z9e (by omega)⟩
   have c1:(i:Int)<c.outs.length:=by omega
   have hwi:=wI1 (n:=i) (by omega);have hT2:(a14 (c.outs.take (i+1)) nets).map u8R=(a14 (c.outs.take i) nets).map u8R++[[.int .u8 v]]:=by unfold a14;rw[a1g ho,List.map_append,List.map_append];simp only[List.map_cons,List.map_nil,List.getD,hnv,Option.getD_some];rfl
   have hvc:=λ(d:Bool) (H:a02) (hb:a01 H 0=some (.row 1 NR))=>hval d H o v hnv hb;generalize(a14 (c.outs.take i) nets).map u8R=T at hTl hTf hT2;have h1':=a08 hTf;have h2':=λπ=>a06 π hTf;cases T with
   |nil=>
    have hvc:=λ(d:Bool) (x1 x2 x3:Option AObj)=>hvc d [some (.row 1 NR),x1,x2,x3] rfl
    (repeat first|simp only[ww]|(apply xa;simp+decide only[go_sem,c1,hlt,ho,hwi,hvc,a0t,a0u];rfl;kernel_rfl))
    refine a1j (c.outs.length-(i+1)) (by omega) ⟨_,_,?_,i+1,rfl,hlt,rfl,rfl⟩;rw[hT2]
    (simp+decide only[go_sem,a03,a00,a0b,a0c,List.nil_append,List.length_nil,n1,n2]<;>rfl)<;>rfl
   |cons a r=>
    simp only[List.length_cons]at hTl;have hrm:r.length+1+1≤1000000000:=by omega
    simp only[List.flatMap_cons]at h1';simp only[List.map_cons,List.cons.injEq]at h2';have hvc:=λ(d:Bool) (x1 x2 x3 x4:Option AObj)=>hvc d [some (.row 1 NR),x1,x2,x3,x4] rfl
    (repeat first|simp only[ww]|(apply xa;simp+decide only[go_sem,c1,hlt,ho,hwi,hvc,a0b,a0c,hrm];rfl;kernel_rfl))
    refine a1j (c.outs.length-(i+1)) (by omega) ⟨_,_,?_,i+1,rfl,hlt,rfl,rfl⟩;rw[hT2]
    (simp+decide only[go_sem,a03,a00,a0b,a0c,List.cons_append,h1',h2',n1,n2]<;>rfl)<;>rfl
  ·obtain rfl:i=c.outs.length:=by omega
   have c1:¬(c.outs.length:Int)<c.outs.length:=by omega
   rw[List.take_length]at hTl hTf⊢;have hOl:0<c.outs.length:=List.length_pos_iff.2 hO;have hTc:a2p (a14 c.outs nets) = .islice ((a14 c.outs nets).map u8R) (some c.outs.length):=by
    have hol2:(a14 c.outs nets).length=c.outs.length:=by simp[a14]
    cases ho:a14 c.outs nets with
    |nil=>rw[ho]at hol2;simp at hol2;omega
    |cons v q=>rw[ho]at hol2;simp only[List.length_cons]at hol2;rw[←hol2];rfl
   unfold a9r;rw[hTc];generalize(a14 c.outs nets).map u8R=T at hTl hTf;cases T with
   |nil=>simp at hTl;omega
   |cons a r=>
    have hal:r.length+1=c.outs.length:=by simpa using hTl
    have h1':=a08 hTf;have h2':=λπ=>a06 π hTf;have h3':=λ(m:Nat) (q:AV→Option AV)=>a17 m q hTf;simp only[List.flatMap_cons]at h1';simp only[List.map_cons,List.cons.injEq]at h2'
    (repeat first|simp only[ww]|(apply xa;simp+decide only[go_sem,c1,hs,a0b,a0c];rfl;kernel_rfl))
    refine a4j kp63_2 (λn F H=>∃i,n=(kinds c.nodes 14).length-i∧i≤(kinds c.nodes 14).length∧F=[(1,.ptr 1 0 0),(2,.ptr 2 0 0),(3,.ptr 3 0 0),(29,sl r1 ((kinds c.nodes 14).map a0h)),(30,.int .i64 (kinds c.nodes 14).length),(31,.int .i64 i)]∧H=[some (.row 1 NR),some (.row 5 [[sl c.nc (c.nodes.map Nd.enc),sl c.mc (c.names.map a1h),.nilslice,sl c.oc (c.outs.map a0h),.slice 0 0 c.nodes.length (some c.nodes.length)]]),some (.row 2 [[.nilslice,.nilslice]]),some (.row 2 [[.slice 4 0 (r.length+1) none,grV 5 (((a1q c.nodes nets).take i).map u8R)]]),some (.row 1 (a::r))]++grH 1 (((a1q c.nodes nets).take i).map u8R)) (kinds c.nodes 14).length ?_ ?_
    ·refine⟨_,_,?_,0,rfl,Nat.zero_le _,rfl,rfl⟩;rw[List.take_zero]
     (simp+decide only[go_sem,a03,a00,a0t,a0u,List.map_nil,n1,n2,h1',h2']<;>rfl)<;>rfl
    ·rintro n F H ⟨i,rfl,hi,rfl,rfl⟩
     have hNl:(a1q c.nodes nets).length=(kinds c.nodes 14).length:=by simp[a1q]
     have hXl:(((a1q c.nodes nets).take i).map u8R).length=i:=by simp;omega
     have hXf:=a2e ((a1q c.nodes nets).take i);by_cases hlt:i<(kinds c.nodes 14).length
     ·obtain⟨q,hq⟩:∃q,(kinds c.nodes 14)[i]?=some q:=⟨_,z9e hlt⟩
      obtain⟨hqn,hqk⟩:=a6p hq;obtain⟨x,hx⟩:∃x,c.nodes[q]?=some x:=⟨_,z9e hqn⟩
      have hxk:x.kind=14:=by rw[←a1e hx];exact hqk
      have hx1:x.ins.length=1:=by have h1:=hc.lo x (List.mem_of_getElem? hx);have h2:=hc.hi x (List.mem_of_getElem? hx);rw[hxk]at h1 h2;have e1:a23 14=1:=rfl;have e2:a24 14=1:=rfl;omega
      obtain⟨m,hm⟩:∃m,x.ins[0]?=some m:=⟨_,z9e (by omega)⟩
      have hmn:=hc.ins x (List.mem_of_getElem? hx) m (List.mem_of_getElem? hm);obtain⟨v,hnv⟩:∃v,nets[m]?=some v:=⟨_,z9e (by omega)⟩
      have hX2:((a1q c.nodes nets).take (i+1)).map u8R=((a1q c.nodes nets).take i).map u8R++[[.int .u8 (a58 v)]]:=by
       have:(a1q c.nodes nets)[i]?=some (a58 v):=by unfold a1q;rw[List.getElem?_map,hq];simp only[Option.map_some,a22 hx,List.getD,hm,hnv,Option.getD_some]
       rw[a1g this,List.map_append];rfl
      have c1:(i:Int)<(kinds c.nodes 14).length:=by omega
      have hwi:=wI1 (n:=i) (by omega);have hc1:decide ((x.ins.length:Int)=1)=true:=decide_eq_true (by omega);have h01:Ax.rowAt (x.ins.map a0h) 0=some [AV.int .i64 m]:=by have:=c7z (x.ins.map a0h) 0;rw[Int.natCast_zero]at this;rw[this,List.getElem?_map,hm];rfl
      have hvc:=λ(d:Bool) (H:a02) (hb:a01 H 0=some (.row 1 NR))=>hval d H m v hnv hb;have hrd:=λ(d:Bool) (H:a02)=>a6o (d:=d) H v;generalize a58 v=w at hX2 hrd;generalize((a1q c.nodes nets).take i).map u8R=X at hXl hXf hX2;have g1':=a08 hXf;have g2':=λπ=>a06 π hXf;cases X with
      |nil=>
       have hvc:=λ(d:Bool) (x1 x2 x3 x4:Option AObj)=>hvc d [some (.row 1 NR),x1,x2,x3,x4] rfl
       (repeat first|simp only[ww]|(apply xa;simp+decide only[go_sem,c1,hlt,hq,hqn,hx,hc1,h01,hm,hwi,hvc,hrd,a0t,a0u];rfl;kernel_rfl))
       refine a1j ((kinds c.nodes 14).length-(i+1)) (by omega) ⟨_,_,?_,i+1,rfl,hlt,rfl,rfl⟩;rw[hX2]
       (simp+decide only[go_sem,a03,a00,a0b,a0c,List.nil_append,List.length_nil,n1,n2,h1',h2']<;>rfl)<;>rfl
      |cons a2 r2=>
       simp only[List.length_cons]at hXl;have hrm:r2.length+1+1≤1000000000:=by omega
       simp only[List.flatMap_cons]at g1';simp only[List.map_cons,List.cons.injEq]at g2';have hvc:=λ(d:Bool) (x1 x2 x3 x4 x5:Option AObj)=>hvc d [some (.row 1 NR),x1,x2,x3,x4,x5] rfl
       (repeat first|simp only[ww]|(apply xa;simp+decide only[go_sem,c1,hlt,hq,hqn,hx,hc1,h01,hm,hwi,hvc,hrd,a0b,a0c,hrm];rfl;kernel_rfl))
       refine a1j ((kinds c.nodes 14).length-(i+1)) (by omega) ⟨_,_,?_,i+1,rfl,hlt,rfl,rfl⟩;rw[hX2]
       (simp+decide only[go_sem,a03,a00,a0b,a0c,List.cons_append,g1',g2',n1,n2,h1',h2']<;>rfl)<;>rfl
     ·obtain rfl:i=(kinds c.nodes 14).length:=by omega
      have c1:¬((kinds c.nodes 14).length:Int)<(kinds c.nodes 14).length:=by omega
      have hcp:=λ(d:Bool) (x0 x1 x2 x3:Option AObj) (R:a02)=>a8r (d:=d) (H:=x0::x1::x2::x3::some (.row 1 (a::r))::R) (b:=4) (n:=r.length+1) hTf rfl;rw[List.take_of_length_le (by omega)]at hXl hXf⊢;cases hX:a1q c.nodes nets with
      |nil=>
       have hcn:=λ(d:Bool) (H:a02)=>b49 (d:=d) H
       (repeat first|simp only[ww]|(apply xa;simp+decide only[go_sem,c1,hcp,hcn,List.map_nil,a0t,a0u];rfl;kernel_rfl))
       refine a2v (vs:=[.agg [.slice 4 0 (r.length+1) (some (r.length+1)),.nilslice]]) (r:=(_,_)) (by simp+decide only[go_sem]) ?_ rfl;show a26 false 1 (.agg [.slice 4 0 (r.length+1) (some (r.length+1)),.nilslice]) _=_;have htk:List.take (r.length+1) (a::r)=a::r:=List.take_length (l:=a::r);rw[←hal];unfold a2p;simp+decide only[go_sem,h3',n2,htk]<;>rfl
      |cons a2 r2=>
       rw[hX]at hXl hXf;have hcp2:=λ(d:Bool) (x0 x1 x2 x3 x4:Option AObj)=>a8r (d:=d) (H:=[x0,x1,x2,x3,x4,some (.row 1 ((a2::r2).map u8R))]) (b:=5) (n:=r2.length+1) hXf rfl;have g3':=λ(m:Nat) (q:AV→Option AV)=>a17 m q hXf;have hml:(r2.map u8R).length=r2.length:=List.length_map ..;simp only[List.map_cons,u8R]at hcp2 g3' hXf⊢
       (repeat first|simp only[ww]|(apply xa;simp+decide only[go_sem,c1,hcp,hcp2,a0b,a0c,hml];rfl;kernel_rfl))
       refine a2v (vs:=[.agg [.slice 4 0 (r.length+1) (some (r.length+1)),.slice 5 0 (r2.length+1) (some (r2.length+1))]]) (r:=(_,_)) (by simp+decide only[go_sem]) ?_ rfl;show a26 false 1 (.agg [.slice 4 0 (r.length+1) (some (r.length+1)),.slice 5 0 (r2.length+1) (some (r2.length+1))]) _=_;have htk:List.take (r.length+1) (a::r)=a::r:=List.take_length (l:=a::r);have htk2:List.take (r2.length+1) ([AV.int .u8 a2]::r2.map u8R)=[AV.int .u8 a2]::r2.map u8R:=List.take_of_length_le (by simp);rw[←hal];unfold a2p;simp only[List.map_cons,u8R];simp+decide only[go_sem,h3',g3',n2,htk,htk2]<;>rfl
theorem c4u{d:Bool}{H:a02}{b:Nat}(c:Cir)(hc:c.wf)(p:Pat)(hp:PatOk c.nodes p)(N0:List Nat)(hN:N0.length=c.nodes.length)(hb:a01 H b=some (.row 1 (N0.map u8R))) :
 a0a L.env d (sem L.env Mf) (.func (.func 60) [] []) [.agg [sl c.nc (c.nodes.map Nd.enc),sl c.mc (c.names.map a1h),.nilslice,sl c.oc (c.outs.map a0h),.slice b 0 c.nodes.length (some c.nodes.length)],.agg [sl p.ic (p.ins.map u8R),sl p.sc (p.sts.map u8R)]] H=some (.tuple [],H.set b (some (.row 1 ((a1u (a1u N0 (kinds c.nodes 0) p.ins) (kinds c.nodes 14) p.sts).map u8R))),[b]):=
 a40 (fs:=[]) (cs:=[]) (ar:=[.agg [sl c.nc (c.nodes.map Nd.enc),sl c.mc (c.names.map a1h),.nilslice,sl c.oc (c.outs.map a0h),.slice b 0 c.nodes.length (some c.nodes.length)],.agg [sl p.ic (p.ins.map u8R),sl p.sc (p.sts.map u8R)]]) (by kernel_rfl) (by kernel_rfl) rfl hb (a0m (a2e N0)) (FlatO.row (a2e N0)) (by simp only[List.nil_append,List.append_nil,go_sem]) (args':=[.agg [sl c.nc (c.nodes.map Nd.enc),sl c.mc (c.names.map a1h),.nilslice,sl c.oc (c.outs.map a0h),.slice 0 0 c.nodes.length (some c.nodes.length)],.agg [sl p.ic (p.ins.map u8R),sl p.sc (p.sts.map u8R)]]) (by simp only[List.nil_append,List.append_nil,List.map_cons,List.map_nil,c1o,a1y,b9b,a7t]) (d2f c hc p hp N0 hN) (FlatO.row (a2e _)) rfl
theorem c7p{d:Bool}{H:a02}{b:Nat}(c:Cir)(hc:c.wf)(hO:c.outs≠[])(nets:List Nat)(hl:nets.length=c.nodes.length)(hv:∀v∈nets,v≤3)(hb:a01 H b=some (.row 1 (nets.map u8R))) :
 a0a L.env d (sem L.env Mf) (.func (.func 63) [] []) [.agg [sl c.nc (c.nodes.map Nd.enc),sl c.mc (c.names.map a1h),.nilslice,sl c.oc (c.outs.map a0h),.slice b 0 c.nodes.length (some c.nodes.length)]] H=some (a9r (a14 c.outs nets) (a1q c.nodes nets),H,[b]):=
 a30 (fs:=[]) (cs:=[]) (ar:=[.agg [sl c.nc (c.nodes.map Nd.enc),sl c.mc (c.names.map a1h),.nilslice,sl c.oc (c.outs.map a0h),.slice b 0 c.nodes.length (some c.nodes.length)]]) (by kernel_rfl) (by kernel_rfl) rfl hb (a0m (a2e nets)) (FlatO.row (a2e nets)) (by simp only[List.nil_append,List.append_nil,go_sem]) (args':=[.agg [sl c.nc (c.nodes.map Nd.enc),sl c.mc (c.names.map a1h),.nilslice,sl c.oc (c.outs.map a0h),.slice 0 0 c.nodes.length (some c.nodes.length)]]) (by simp only[List.nil_append,List.append_nil,List.map_cons,List.map_nil,c1o,a1y,b9b,a7t]) (d7f c hc hO nets hl hv) (a5q _ _)
theorem b9t{d:Bool}{H:a02}{b:Nat}(k:Nat)(hk:k<16)(l:List Nat)(hl:l.length<1000000)(cp:Option Nat)(X:List (List AV))(hX:FlatR X)(hXl:X.take l.length=l.map u8R)(hb:a01 H b=some (.row 1 X)){m:Nat}(hm:m=l.length) :
 a0a L.env d (sem L.env Mf) (.func (.func 62) [] []) [.int .u8 k,.slice b 0 m cp] H=some (.int .u8 (a3v k l:Nat),H,[b]):=by
 subst hm;have hs:X=l.map u8R++X.drop l.length:=by rw[←hXl,List.take_append_drop]
 have hr:=b7q k hk l (.slice 0 0 l.length cp) [some (.row 1 (l.map u8R++X.drop l.length))] (.blk cp _ (by rw[←hs];exact hX)) hl;rw[←hs]at hr;exact a30 (fs:=[]) (cs:=[]) (ar:=[.int .u8 k,.slice b 0 l.length cp]) (by kernel_rfl) (by kernel_rfl) rfl hb (a0m hX) (FlatO.row hX) (by simp only[List.nil_append,List.append_nil,go_sem]) (args':=[.int .u8 k,.slice 0 0 l.length cp]) (by simp only[List.nil_append,List.append_nil,List.map_cons,List.map_nil,a1y,c81]) hr rfl
theorem c4x{d:Bool}(H:a02)(c:Cir)(h:c.wf)(p:Pat)(hp:PatOk c.nodes p):a0a L.env d (sem L.env Mf) (.func (.func 59) [] []) [.agg c.enc,.agg p.enc] H=some (.int .i64 0,H,[]):=a04 (by kernel_rfl) (by kernel_rfl) rfl (by simp only[a07,a0s,Cir.enc,Pat.enc,go_sem]) (d9a c h p hp) rfl
theorem a1d(l:List Nat):(a2p l).storable=true:=by cases l<;>rfl
def a52(c:Cir)(ord:List Nat)(p:Pat):List Nat:=c5b nAlg c.nodes hk0 ord (kinds c.nodes 0) (kinds c.nodes 14) p.ins p.sts
theorem f4t{X:List (List AV)}{j n:Nat}{x:List AV}(hl:X.length=n)(hj:j<n):(X.take j++[x]++X.drop (j+1)).length=n∧(X.take j++[x]++X.drop (j+1)).take (j+1)=X.take j++[x]:=by refine⟨by simp;omega,?_⟩;rw[List.take_append_of_le_length (by simp;omega),List.take_of_length_le (by simp;omega)]
theorem c9n{X:List (List AV)}{j:Nat}{x:List AV}(hX:FlatR X)(hx:a0e x=[]):FlatR (X.take j++[x]++X.drop (j+1)):=by
 intro r hr;simp only[List.mem_append,List.mem_singleton]at hr;rcases hr with (hr|rfl)|hr
 ·exact hX r (List.mem_of_mem_take hr)
 ·exact hx
 ·exact hX r (List.mem_of_mem_drop hr)
theorem b7p:∀(is vs N:List Nat),(∀v∈N,v≤3)→(∀v∈vs,v≤3)→∀v∈a1u N is vs,v≤3
 | [],vs,N,h,_=>by cases vs<;>exact h
 |_::_,[],N,h,_=>h
 |i::is,w::vs,N,h,hv=>by
  simp only[a1u];refine b7p is vs _ (λv hm=>?_) (λv hm=>hv v (List.mem_cons_of_mem _ hm));rcases List.mem_or_eq_of_mem_set hm with h1|h1
  ·exact h v h1
  ·rw[h1];exact hv w (List.mem_cons_self ..)
theorem d7u{nodes:List Nd}{N:List Nat}{n:Nat}(h:∀v∈N,v≤3):∀v∈a1k nAlg nodes hk0 N n,v≤3:=by
 have key:∀(l:List Nat) (p:Nat),∀v∈a57 nAlg hk0 n N p l,v≤3:=by
  intro l
  induction l with
  |nil=>intro p v hv;simp[a57]at hv
  |cons m l ih=>
   intro p v hv;simp only[a57,List.mem_cons]at hv;rcases hv with rfl|hv
   ·show N.getD m 0≤3;rw[List.getD];cases hm:N[m]? with
    |none=>decide
    |some w=>exact h w (List.mem_of_getElem? hm)
   ·exact ih _ v hv
 exact key _ _
theorem c7n(c:Cir)(hc:c.wf)(hO:c.outs≠[])(p:Pat)(hp:PatOk c.nodes p)(ord:List Nat)(hord:OrdOf c ord):sem L.env Mf 23 [.agg c.enc,.agg p.enc] []=some (.tuple [a9r (a14 c.outs (a52 c ord p)) (a1q c.nodes (a52 c ord p)),.islice ((a52 c ord p).map u8R) (some c.nodes.length),.int .i64 0],[]):=by
 have hnl:=hc.len;have hrm:c.nodes.length≤1000000000:=by omega
 have ho:=hord.call;have hor:∀n∈ord,n<c.nodes.length:=λn hn=>by have:=hord.perm.mem_iff.1 hn;simpa using this
 have hol:ord.length=c.nodes.length:=by rw[hord.perm.length_eq];simp
 have hft:=λ(d:Bool) H=>c4x (d:=d) H c hc p hp;have hce:c.enc=[sl c.nc (c.nodes.map Nd.enc),sl c.mc (c.names.map a1h),.nilslice,sl c.oc (c.outs.map a0h)]:=rfl;have hpe:Pat.enc p=[sl p.ic (p.ins.map u8R),sl p.sc (p.sts.map u8R)]:=rfl;rw[hce,hpe]at hft;rw[hce]at ho;rw[hce,hpe];have hld:=λ(d:Bool) (x0 x1 x2 x4:Option AObj)=>c4u (d:=d) (H:=[x0,x1,x2,some (.row 1 ((List.replicate c.nodes.length 0).map u8R)),x4]) (b:=3) c hc p hp (List.replicate c.nodes.length 0) (by simp) rfl;have hob:=λ(d:Bool) (x0 x1 x3:Option AObj) (N:List Nat) (hl:N.length=c.nodes.length) (hv:∀v∈N,v≤3)=>c7p (d:=d) (H:=[x0,x1,some (.row 1 (N.map u8R)),x3]) (b:=2) c hc hO N hl hv rfl;have hN1l:(a1u (a1u (List.replicate c.nodes.length 0) (kinds c.nodes 0) p.ins) (kinds c.nodes 14) p.sts).length=c.nodes.length:=by rw[a4d,a4d];simp
 have hN1v:∀v∈a1u (a1u (List.replicate c.nodes.length 0) (kinds c.nodes 0) p.ins) (kinds c.nodes 14) p.sts,v≤3:=b7p _ _ _ (b7p _ _ _ (λv hv=>by rw[List.eq_of_mem_replicate hv];omega) hp.inv) hp.stv;have hG:a52 c ord p=ord.foldl (Pc.stepG nAlg c.nodes hk0) (a1u (a1u (List.replicate c.nodes.length 0) (kinds c.nodes 0) p.ins) (kinds c.nodes 14) p.sts):=rfl;rw[hG];have hrp:(List.replicate c.nodes.length 0).map u8R=List.replicate c.nodes.length [AV.int .u8 0]:=by rw[List.map_replicate];rfl
 rw[hrp]at hld;generalize a1u (a1u (List.replicate c.nodes.length 0) (kinds c.nodes 0) p.ins) (kinds c.nodes 14) p.sts=N1 at hld hN1l hN1v⊢
 suffices hs:∃r:AV×a02,(r=(.tuple [a9r (a14 c.outs (ord.foldl (Pc.stepG nAlg c.nodes hk0) N1)) (a1q c.nodes (ord.foldl (Pc.stepG nAlg c.nodes hk0) N1)),.islice ((ord.foldl (Pc.stepG nAlg c.nodes hk0) N1).map u8R) (some c.nodes.length),.int .i64 0],[]))∧sem L.env Mf 23 [.agg [sl c.nc (c.nodes.map Nd.enc),sl c.mc (c.names.map a1h),.nilslice,sl c.oc (c.outs.map a0h)],.agg [sl p.ic (p.ins.map u8R),sl p.sc (p.sts.map u8R)]] []=some r by obtain⟨r,rfl,h3⟩:=hs;exact h3
 (refine svE Tryz.f23 ?_;simp only[Tryz.f23,gS])
 (repeat first|simp only[ww]|(apply xa;simp+decide only[go_sem,ho,hft,hrm,hld];rfl;kernel_rfl))
 refine a4j kp23_0 (λn F H=>∃(i q:Nat) (X:List (List AV)),n=ord.length-i∧i≤ord.length∧q≤16∧X.length=16∧FlatR X∧(∀v∈(ord.take i).foldl (Pc.stepG nAlg c.nodes hk0) N1,v≤3)∧F=[(4,.ptr 0 0 0),(9,.ptr 1 0 0),(10,.slice 3 0 q (some 16)),(40,.islice (ord.map a0h) (some c.nodes.length)),(41,.int .i64 ord.length),(42,.int .i64 i)]∧H=[some (.row 2 [[.nilslice,.nilslice]]),some (.row 5 [[sl c.nc (c.nodes.map Nd.enc),sl c.mc (c.names.map a1h),.nilslice,sl c.oc (c.outs.map a0h),.slice 2 0 c.nodes.length (some c.nodes.length)]]),some (.row 1 (((ord.take i).foldl (Pc.stepG nAlg c.nodes hk0) N1).map u8R)),some (.row 1 X)]) ord.length ?_ ?_
 ·refine⟨_,_,?_,0,0,List.replicate 16 [.int .u8 0],rfl,Nat.zero_le _,by omega,rfl,λr hr=>by rw[List.eq_of_mem_replicate hr];rfl,by rw[List.take_zero];exact hN1v,rfl,rfl⟩;rw[List.take_zero,List.foldl_nil]
  (simp+decide only[go_sem,a03,a00,a2y,a2m]<;>rfl)<;>rfl
 ·rintro n F H ⟨i,q,X,rfl,hi,hq,hXl,hXf,hNv,rfl,rfl⟩
  have hll:=b84 (A:=nAlg) (nodes:=c.nodes) (h:=hk0) (ord.take i) N1;rw[hN1l]at hll;have x1:=a08 hXf;have x2:=λπ=>a06 π hXf;by_cases hlt:i<ord.length
  ·obtain⟨n,hn⟩:∃n,ord[i]?=some n:=⟨_,z9e hlt⟩
   have hnn:=hor n (List.mem_of_getElem? hn);obtain⟨x,hx⟩:∃x,c.nodes[n]?=some x:=⟨_,z9e hnn⟩
   have hxm:=List.mem_of_getElem? hx;have k14:=hc.kind x hxm;have hil:=hc.insl hxm;have hka:=a1e hx;have hs:=c07 (A:=nAlg) (nodes:=c.nodes) (h:=hk0) (nets:=N1) hn;have c1:(i:Int)<ord.length:=by omega
   have hwi:=wI1 (n:=i) (by omega);have hcb:=λ(d:Bool) H=>b47 (d:=d) H x.kind (by omega);have hxe:x.enc=[.int .u8 x.kind,sl x.c (x.ins.map a0h),.int .i64 x.mem,.int .i64 x.bit]:=rfl;generalize(ord.take i).foldl (Pc.stepG nAlg c.nodes hk0) N1=N at hs hll hNv;obtain⟨w0,hw0⟩:∃w,N[n]?=some w:=⟨_,z9e (by omega)⟩
   by_cases hcm:a1p x.kind=true
   ·have hne:a0x c.nodes n≠0∧a0x c.nodes n≠14:=by
     rw[hka];constructor<;>(intro e;rw[e]at hcm;exact absurd hcm (by decide))
    have hkk:x.kind<16:=by omega
    have hRd:a2k c.nodes n=x.ins:=a22 hx;have hRl:(a1k nAlg c.nodes hk0 N n).length=x.ins.length:=by rw[a8k,hRd]
    have hRv:=d7u (nodes:=c.nodes) (n:=n) hNv
    (repeat first|simp only[ww]|(apply xa;simp+decide only[go_sem,c1,hlt,hn,hx,hnn,hcb,hcm];rfl;kernel_rfl))
    refine a4j kp23_2 (λm F H=>∃(j:Nat) (Y:List (List AV)),m=x.ins.length-j∧j≤x.ins.length∧Y.length=16∧FlatR Y∧Y.take j=((a1k nAlg c.nodes hk0 N n).take j).map u8R∧F=[(4,.ptr 0 0 0),(9,.ptr 1 0 0),(10,.slice 3 0 j (some 16)),(12,.int .i64 n),(13,.ptr 4 0 0),(40,.islice (ord.map a0h) (some c.nodes.length)),(41,.int .i64 ord.length),(42,.int .i64 i),(59,sl x.c (x.ins.map a0h)),(60,.int .i64 x.ins.length),(61,.int .i64 j)]∧H=[some (.row 2 [[.nilslice,.nilslice]]),some (.row 5 [[sl c.nc (c.nodes.map Nd.enc),sl c.mc (c.names.map a1h),.nilslice,sl c.oc (c.outs.map a0h),.slice 2 0 c.nodes.length (some c.nodes.length)]]),some (.row 1 (N.map u8R)),some (.row 1 Y),some (.row 4 [[.int .u8 x.kind,sl x.c (x.ins.map a0h),.int .i64 x.mem,.int .i64 x.bit]])]) x.ins.length ?_ ?_
    ·refine⟨_,_,?_,0,X,rfl,Nat.zero_le _,hXl,hXf,rfl,rfl,rfl⟩
     (simp+decide only[go_sem,a03,a00,a2y,a2m,x1,x2]<;>rfl)<;>rfl
    ·rintro m F H ⟨j,Y,rfl,hj,hYl,hYf,hYt,rfl,rfl⟩
     have y1:=a08 hYf;have y2:=λπ=>a06 π hYf;by_cases hjl:j<x.ins.length
     ·obtain⟨u,hu⟩:∃u,x.ins[j]?=some u:=⟨_,z9e hjl⟩
      have hun:=hc.ins x hxm u (List.mem_of_getElem? hu);obtain⟨v,hv⟩:∃v,N[u]?=some v:=⟨_,z9e (by omega)⟩
      have d1:(j:Int)<x.ins.length:=by omega
      have hwj:=wI1 (n:=j) (by omega);have hrs:=b5n (A:=nAlg) (h:=hk0) (nodes:=c.nodes) (nets:=N) (n:=n) (i:=j) (by rw[hRd];exact hu) hv;obtain⟨z1,z2⟩:=f4t (x:=[AV.int .u8 v]) hYl (show j<16 by omega);have z3:=c9n (j:=j) (x:=[AV.int .u8 v]) hYf rfl;generalize hZ:Y.take j++[[AV.int .u8 v]]++Y.drop (j+1)=Z at z1 z2 z3;rw[hYt]at z2;have w1:=a08 z3;have w2:=λπ=>a06 π z3;have hj16:j≤16:=by omega
      have hj17:j+1≤16:=by omega
      (repeat first|simp only[ww]|(apply xa;simp+decide only[go_sem,d1,hjl,hu,hun,hv,hll,hwj,hYl,hj16,hj17,hZ,Nat.zero_add];rfl;kernel_rfl))
      refine a1j (x.ins.length-(j+1)) (by omega) ⟨_,_,?_,j+1,Z,rfl,hjl,z1,z3,?_,rfl,rfl⟩
      ·(simp+decide only[go_sem,a03,a00,a2y,a2m,w1,w2,hZ]<;>rfl)<;>rfl
      ·rw[z2,hrs,List.map_append];rfl
     ·obtain rfl:j=x.ins.length:=by omega
      have d1:¬(x.ins.length:Int)<x.ins.length:=by omega
      have hev:=λ(d:Bool) (x0 x1 x2 x4:Option AObj)=>b9t (d:=d) (H:=[x0,x1,x2,some (.row 1 Y),x4]) (b:=3) x.kind hkk (a1k nAlg c.nodes hk0 N n) (by omega) (some 16) Y hYf (by rw[hRl,hYt,List.take_of_length_le (by omega)]) rfl (m:=x.ins.length) hRl.symm;have hstep:Pc.stepG nAlg c.nodes hk0 N n=N.set n (a3v x.kind (a1k nAlg c.nodes hk0 N n)):=by unfold Pc.stepG;rw[if_pos hne,hka];show N.set n (a3v x.kind ((a1k nAlg c.nodes hk0 N n).map a4k))=_;rw[b9o hRv]
      have hle:=b7j x.kind _ hRv;rw[hstep]at hs;generalize a3v x.kind (a1k nAlg c.nodes hk0 N n)=w at hev hs hle;have hsR:(N.map u8R).set n [AV.int .u8 w]=(N.set n w).map u8R:=by rw[List.map_set];rfl
      (repeat first|simp only[ww]|(apply xa;simp+decide only[go_sem,d1,hev,hnn,hll,hw0,hsR,hwi];rfl;kernel_rfl))
      refine a1j (ord.length-(i+1)) (by omega) ⟨_,_,?_,i+1,x.ins.length,Y,rfl,hlt,by omega,hYl,hYf,?_,rfl,rfl⟩
      ·rw[hs]
       (simp+decide only[go_sem,a03,a00,a2y,a2m,y1,y2]<;>rfl)<;>rfl
      ·rw[hs];intro v hv;rcases List.mem_or_eq_of_mem_set hv with h1|h1
       ·exact hNv v h1
       ·rw[h1];exact hle
   ·have hcm:a1p x.kind=false:=by simpa using hcm
    have hstep:Pc.stepG nAlg c.nodes hk0 N n=N:=by
     have hne:¬(a0x c.nodes n≠0∧a0x c.nodes n≠14):=by rw[hka];intro hh;simp[a1p]at hcm;omega
     unfold Pc.stepG;rw[if_neg hne];show N.set n (N.getD n 0)=N;rw[List.getD,hw0,Option.getD_some];have:=(List.getElem?_eq_some_iff.1 hw0)
     rw[←this.2];exact List.set_getElem_self this.1
    rw[hstep]at hs
    (repeat first|simp only[ww]|(apply xa;simp+decide only[go_sem,c1,hlt,hn,hx,hnn,hcb,hcm,hwi];rfl;kernel_rfl))
    refine a1j (ord.length-(i+1)) (by omega) ⟨_,_,?_,i+1,q,X,rfl,hlt,hq,hXl,hXf,by rw[hs];exact hNv,rfl,rfl⟩;rw[hs]
    (simp+decide only[go_sem,a03,a00,a2y,a2m,x1,x2]<;>rfl)<;>rfl
  ·obtain rfl:i=ord.length:=by omega
   have c1:¬(ord.length:Int)<ord.length:=by omega
   rw[List.take_length]at hll hNv⊢;generalize ord.foldl (Pc.stepG nAlg c.nodes hk0) N1=N at hll hNv⊢;have hob:=λ(d:Bool) (x0 x1 x3:Option AObj)=>hob d x0 x1 x3 N hll hNv;unfold a9r at hob⊢;have q1:=a18 (a14 c.outs N);have hst1:=a1d (a14 c.outs N);have hst2:=a1d (a1q c.nodes N);have q2:=a18 (a1q c.nodes N);generalize a2p (a14 c.outs N)=V1 at hob q1 hst1⊢;generalize a2p (a1q c.nodes N)=V2 at hob q2 hst2⊢;have s1:V1.storable=true:=hst1;have s2:V2.storable=true:=hst2;have hNf:=a2e N;have r1:∀π,ren π V1=V1:=λπ=>a0d π _ q1;have r2:∀π,ren π V2=V2:=λπ=>a0d π _ q2;have f1:=λm t d=>a0j m t d V1 q1;have f2:=λm t d=>a0j m t d V2 q2;have f3:=λm d=>a17 m d hNf;have htk:(N.map u8R).take c.nodes.length=N.map u8R:=List.take_of_length_le (by simp;omega)
   (repeat first|simp only[ww]|(apply xa;simp+decide only[go_sem,c1,hob,s1,s2];rfl;kernel_rfl))
   refine a2v (vs:=[.agg [V1,V2],.slice 2 0 c.nodes.length (some c.nodes.length),.int .i64 0]) (r:=(_,_)) (by simp+decide only[go_sem]) ?_ rfl;show a26 false 0 (.tuple [.agg [V1,V2],.slice 2 0 c.nodes.length (some c.nodes.length),.int .i64 0]) _=_;simp+decide only[go_sem,f1,f2,f3,htk,hll]<;>rfl
end Go.UInst
