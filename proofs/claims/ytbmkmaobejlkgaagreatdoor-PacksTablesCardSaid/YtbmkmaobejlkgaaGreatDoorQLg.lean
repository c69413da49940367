/- Part of a proof. No condition. -/
import Derived.Test.YtbmkmaobejlkgaaGreatDoorQNe
import Derived.Test.YtbmkmaobejlkgaaGreatDoorPcB
import Derived.Test.YtbmkmaobejlkgaaGreatDoorAxD
import Derived.Test.YtbmkmaobejlkgaaGreatDoorQPa
set_option linter.unusedSimpArgs false
set_option linter.unusedVariables false
namespace Go.QInst
open Go.Proofs Go.Ax Go.Pc
set_option maxRecDepth 100000
inductive RA(l:List Nat):AV→a02→Prop
 |imm (r:Rep):RA l (sl r (l.map u8R)) []
 |blk (c:Option Nat) (af:List (List AV)) (hf:FlatR (l.map u8R++af)):RA l (.slice 0 0 l.length c) [some (.row 1 (l.map u8R++af))]
theorem a2b(l:List Nat):FlatR (l.map u8R):=FlatR.map λ_=>rfl
theorem b9t{l:List Nat}{V:AV}{H:a02}(h:RA l V H):b8v L.env (a01 H) 49 V=some (.int .i64 l.length):=by
 cases h with
 |imm r=>simp+decide only[go_sem]
 |blk c af hf=>simp+decide only[go_sem]
theorem b9u{l:List Nat}{V:AV}{H:a02}(h:RA l V H){i v:Nat}(hi:l[i]?=some v):∃p,a0s L.env (a01 H) 49 V (.int .i64 i)=some p∧a5e L.env (a01 H) 42 p=some (.int .u8 v):=by
 have ag:=(e9k.1 hi).1;cases h with
 |imm r=>exact⟨_,by simp+decide only[go_sem,hi,ag]<;>rfl,by simp+decide only[go_sem,hi,ag]⟩
 |blk c af hf=>
  have hg:(l.map u8R++af)[i]?=some [.int .u8 v]:=by rw[f0i (by simpa using ag),f0d,hi];rfl
  have gO:i<(l.map u8R++af).length:=by simp;omega
  exact⟨_,by simp+decide only[go_sem,hg,ag,gO]<;>rfl,by simp+decide only[go_sem,hg,ag,gO]⟩
theorem a1n{l:List Nat}{V v:AV}{H:a02}(h:RA l V H)(hv:refs v=[]):a10 false H.length v H=some (v,H):=by
 cases h with
 |imm r=>exact a42 hv
 |blk c af hf=>have h1:=λπ=>a0b π hf;have hr:∀π,ren π v=v:=λπ=>a0x π v hv;simp+decide only[go_sem,a10,a4i _ _ _ _ hv,h1]
theorem d9n{l:List Nat}{V:AV}{H:a02}(h:RA l V H)(b:Nat):a0o (a01 H b)=[]:=by
 cases h with
 |imm r=>rfl
 |blk c af hf=>
  cases b with
  |zero=>exact a0f hf
  |succ b=>rfl
theorem d7o{l:List Nat}{V:AV}{H:a02}(h:RA l V H):(∀b∈refs V,b<H.length)∧(refs V).length≤1:=by
 cases h with
 |imm r=>rw[a33];exact⟨λb hb=>by simp at hb,by simp⟩
 |blk c af hf=>exact⟨λb hb=>by simp[refs]at hb;subst hb;simp,by simp[refs]⟩
theorem b7u{l:List Nat}{V:AV}{H:a02}(h:RA l V H){keep:List Nat}{F F':Frm}(hk:a1i keep F=F')(hF:a08 (F'.map (·.2))=refs V∨a08 (F'.map (·.2))=[]):gcD H.length keep F H=some (F',H):=by
 obtain⟨h1,h2⟩:=d7o h;refine d80 hk ?_ ?_ (d9n h)
 ·rcases hF with e|e<;>rw[e]
  ·exact h1
  ·intro b hb;simp at hb
 ·rcases hF with e|e<;>rw[e]
  ·omega
  ·simp
theorem a5s{l:List Nat}{V:AV}{H:a02}(h:RA l V H){d:Bool}{g:FuncId}{pre post:List AV}{v:AV}(hx:L.env.ext g=false)(hf:(L.env.fn g).isSome=true)(hp:a08 pre=[])(hq:a08 post=[])(hv:refs v=[])
 (hr:∀V H,RA l V H→sem L.env Mf g (pre++V::post) H=some (v,H)):a09 L.env d (sem L.env Mf) (.func (.func g) [] []) (pre++V::post) H=some (v,H,refs V):=by
 have hr:=hr V H h;cases h with
 |imm r=>rw[a33];exact a04 hx hf rfl (by simp only[e9q,e9n,a52,a0c,a33,hp,hq]) (by simpa using hr) hv
 |blk c af bF=>refine a1q (b:=0) (fs:=[]) (cs:=[]) (args:=pre ++ .slice 0 0 l.length c::post) hx hf (by simp) rfl (a0f bF) (FlatO.row bF) (by simp only[a52,a0c,hp,hq,b0o,e9q,e9n]) (ap:=pre ++ .slice 0 0 l.length c::post) ?_ hr hv;rw[f2o,e12,a1t];have e:∀l:List AV,a08 l=[]→l.map (ren (a4m [0]))=l:=λl hl=>a3q _ hl;rw[e _ hp,e _ hq]
/-! ### scalars -/
theorem d00(v:Nat):sem L.env Mf 186 [.int .u8 v] []=some (.bool (decide (v≤1)),[]):=by
 have e:decide ((v:Int)≤1)=decide (v≤1):=by rw[decide_eq_decide];omega
 (refine sv Tryz.f186 ?_;simp only[Tryz.f186,gS])
 (repeat first|simp only[ww]|(apply xa;simp+decide only[go_sem,e];rfl;kernel_rfl))
 (apply fqb;simp+decide only[go_sem]<;>rfl)
theorem b3j{d:Bool}(H:a02)(v:Nat):a09 L.env d (sem L.env Mf) (.func (.func 186) [] []) [.int .u8 v] H=some (.bool (decide (v≤1)),H,[]):=a04 (by kernel_rfl) (by kernel_rfl) rfl rfl (d00 v) rfl
theorem d4f(v:Nat):sem L.env Mf 159 [.int .u8 v] []=some (.int .u8 (a40 v:Nat),[]):=by
 have e:d2g (.int .u8 v) [.int .u8 2]=some (.int .u8 ((a40 v:Nat):Int)):=by
  simp only[d2g,a40];by_cases h:(2:Int)<v
  ·rw[f1r h];congr 2;omega
  ·rw[f0j h];congr 2;omega
 generalize a40 v=w at e
 (refine sv Tryz.f159 ?_;simp only[Tryz.f159,gS])
 (repeat first|simp only[ww]|(apply xa;simp+decide only[go_sem,e];rfl;kernel_rfl))
 (apply fqb;simp+decide only[go_sem]<;>rfl)
theorem a6m{d:Bool}(H:a02)(v:Nat):a09 L.env d (sem L.env Mf) (.func (.func 159) [] []) [.int .u8 v] H=some (.int .u8 (a40 v:Nat),H,[]):=a04 (by kernel_rfl) (by kernel_rfl) rfl rfl (d4f v) rfl
theorem e0a(v:Nat):sem L.env Mf 160 [.int .u8 v] []=some (.int .u8 (b1i v:Nat),[]):=by
 have hk:=λH=>b3j (d:=false) H v;by_cases h:v≤1
 ·have hw:IntKind.u8.wrap (1-(v:Int))=((1-v:Nat):Int):=by rw[IntWalk.u8_in _ ⟨by omega,by omega⟩];omega
  rw[show b1i v=1-v by simp[b1i,h]]
  (refine sv Tryz.f160 ?_;simp only[Tryz.f160,gS])
  (repeat first|simp only[ww]|(apply xa;simp+decide only[go_sem,hk,h,hw];rfl;kernel_rfl))
  (apply fqb;simp+decide only[go_sem]<;>rfl)
 ·rw[show b1i v=2 by simp[b1i,h]]
  (refine sv Tryz.f160 ?_;simp only[Tryz.f160,gS])
  (repeat first|simp only[ww]|(apply xa;simp+decide only[go_sem,hk,h];rfl;kernel_rfl))
  (apply fqb;simp+decide only[go_sem]<;>rfl)
theorem c9y{d:Bool}(H:a02)(v:Nat):a09 L.env d (sem L.env Mf) (.func (.func 160) [] []) [.int .u8 v] H=some (.int .u8 (b1i v:Nat),H,[]):=a04 (by kernel_rfl) (by kernel_rfl) rfl rfl (e0a v) rfl
theorem e0b(s a b:Nat):sem L.env Mf 164 [.int .u8 s,.int .u8 a,.int .u8 b] []=some (.int .u8 (b3a s a b:Nat),[]):=by
 have ha:=λH=>a6m (d:=false) H a;have hb:=λH=>a6m (d:=false) H b;by_cases h0:s=0
 ·have c0:(s:Int)=0:=by omega
  rw[show b3a s a b=a40 a by simp[b3a,h0]]
  (refine sv Tryz.f164 ?_;simp only[Tryz.f164,gS])
  (repeat first|simp only[ww]|(apply xa;simp+decide only[go_sem,ha,c0];rfl;kernel_rfl))
  (apply fqb;simp+decide only[go_sem]<;>rfl)
 have c0:¬(s:Int)=0:=by omega
 by_cases h1:s=1
 ·have c1:(s:Int)=1:=by omega
  rw[show b3a s a b=a40 b by simp[b3a,h1]]
  (refine sv Tryz.f164 ?_;simp only[Tryz.f164,gS])
  (repeat first|simp only[ww]|(apply xa;simp+decide only[go_sem,hb,c1];rfl;kernel_rfl))
  (apply fqb;simp+decide only[go_sem]<;>rfl)
 have c1:¬(s:Int)=1:=by omega
 by_cases h2:a=b
 ·have c2:(a:Int)=b:=by omega
  rw[show b3a s a b=a40 a by simp[b3a,h0,h1,h2]]
  (refine sv Tryz.f164 ?_;simp only[Tryz.f164,gS])
  (repeat first|simp only[ww]|(apply xa;simp+decide only[go_sem,ha,c0,c1,c2];rfl;kernel_rfl))
  subst h2
  (repeat first|simp only[ww]|(apply xa;simp+decide only[go_sem,ha];rfl;kernel_rfl))
  (apply fqb;simp+decide only[go_sem]<;>rfl)
 ·have c2:¬(a:Int)=b:=by omega
  rw[show b3a s a b=2 by simp[b3a,h0,h1,h2]]
  (refine sv Tryz.f164 ?_;simp only[Tryz.f164,gS])
  (repeat first|simp only[ww]|(apply xa;simp+decide only[go_sem,c0,c1,c2];rfl;kernel_rfl))
  (apply fqb;simp+decide only[go_sem]<;>rfl)
theorem c9z{d:Bool}(H:a02)(s a b:Nat):a09 L.env d (sem L.env Mf) (.func (.func 164) [] []) [.int .u8 s,.int .u8 a,.int .u8 b] H=some (.int .u8 (b3a s a b:Nat),H,[]):=a04 (by kernel_rfl) (by kernel_rfl) rfl rfl (e0b s a b) rfl
theorem e08(e v:Nat):sem L.env Mf 165 [.int .u8 e,.int .u8 v] []=some (.int .u8 (b96 e v:Nat),[]):=by
 have ha:=λH=>a6m (d:=false) H v;by_cases h0:e=0
 ·have c0:(e:Int)=0:=by omega
  rw[show b96 e v=3 by simp[b96,h0]]
  (refine sv Tryz.f165 ?_;simp only[Tryz.f165,gS])
  (repeat first|simp only[ww]|(apply xa;simp+decide only[go_sem,c0];rfl;kernel_rfl))
  (apply fqb;simp+decide only[go_sem]<;>rfl)
 have c0:¬(e:Int)=0:=by omega
 by_cases h1:e=1
 ·have c1:(e:Int)=1:=by omega
  rw[show b96 e v=a40 v by simp[b96,h1]]
  (refine sv Tryz.f165 ?_;simp only[Tryz.f165,gS])
  (repeat first|simp only[ww]|(apply xa;simp+decide only[go_sem,ha,c1];rfl;kernel_rfl))
  (apply fqb;simp+decide only[go_sem]<;>rfl)
 have c1:¬(e:Int)=1:=by omega
 rw[show b96 e v=2 by simp[b96,h0,h1]]
 (refine sv Tryz.f165 ?_;simp only[Tryz.f165,gS])
 (repeat first|simp only[ww]|(apply xa;simp+decide only[go_sem,c0,c1];rfl;kernel_rfl))
 (apply fqb;simp+decide only[go_sem]<;>rfl)
theorem c9t{d:Bool}(H:a02)(e v:Nat):a09 L.env d (sem L.env Mf) (.func (.func 165) [] []) [.int .u8 e,.int .u8 v] H=some (.int .u8 (b96 e v:Nat),H,[]):=a04 (by kernel_rfl) (by kernel_rfl) rfl rfl (e08 e v) rfl
/-! ### lists -/
theorem c6v(l:List Nat)(V:AV)(H:a02)(hV:RA l V H)(hl:l.length<1000000)(low bf:Nat):sem L.env Mf 187 [V,.int .u8 low,.int .u8 bf] H=some (.int .u8 (a5k low bf bf l:Nat),H):=by
 have ai:=b9t hV;have bg:=d7o hV
 suffices hs:∃r:AV×a02,(r=(.int .u8 (a5k low bf bf l:Nat),H))∧sem L.env Mf 187 [V,.int .u8 low,.int .u8 bf] H=some r by obtain⟨r,rfl,h3⟩:=hs;exact h3
 (refine svE Tryz.f187 ?_;simp only[Tryz.f187,gS])
 (repeat first|simp only[ww]|(apply xa;simp+decide only[go_sem,ai];rfl;kernel_rfl))
 refine a1x kp187_0 (λn F H1=>∃(i out:Nat),n=l.length-i∧i≤l.length∧F=[(1,.int .u8 low),(2,.int .u8 bf),(7,.int .u8 out),(11,V),(12,.int .i64 l.length),(13,.int .i64 i)]∧H1=H∧a5k low bf out (l.drop i)=a5k low bf bf l) l.length ?_ ?_
 ·exact⟨_,_,b7u hV (by simp+decide only[go_sem]<;>rfl) (.inl (by simp+decide only[go_sem])),0,bf,rfl,f0h _,rfl,rfl,rfl⟩
 ·rintro n F H1 ⟨i,out,rfl,hi,rfl,rfl,aE⟩
  by_cases ag:i<l.length
  ·obtain⟨v,hv⟩:∃v,l[i]?=some v:=⟨_,z9e ag⟩
   obtain⟨p,cI,cH⟩:=b9u hV hv;have hd:l.drop i=v::l.drop (i+1):=by rw[←List.getElem_cons_drop ag,(e9k.1 hv).2]
   rw[hd]at aE;have c1:(i:Int)<l.length:=by omega
   have hw:=wI1 (n:=i) (by omega);by_cases h1:v=low
   ·have c2:(v:Int)=low:=by omega
    simp only[a5k,h1,f4b]at aE
    (repeat first|simp only[ww]|(apply xa;simp+decide only[go_sem,c1,cI,cH,c2];rfl;kernel_rfl))
    refine a1v (vs:=[.int .u8 low]) (r:=(_,_)) (by simp+decide only[go_sem]) (a1n hV rfl) ?_;rw[←aE];rfl
   ·have c2:¬(v:Int)=low:=by omega
    by_cases h2:v=bf
    ·subst h2;simp only[a5k,f0j h1,f4b]at aE
     (repeat first|simp only[ww]|(apply xa;simp+decide only[go_sem,c1,cI,cH,c2,hw];rfl;kernel_rfl))
     refine a0p (l.length-(i+1)) (by omega) ⟨_,_,b7u hV (by simp+decide only[go_sem]<;>rfl) (.inl (by simp+decide only[go_sem])),i+1,out,rfl,ag,rfl,rfl,aE⟩
    ·have c3:¬(v:Int)=bf:=by omega
     simp only[a5k,f0j h1,f0j h2]at aE
     (repeat first|simp only[ww]|(apply xa;simp+decide only[go_sem,c1,cI,cH,c2,c3,hw];rfl;kernel_rfl))
     refine a0p (l.length-(i+1)) (by omega) ⟨_,_,b7u hV (by simp+decide only[go_sem]<;>rfl) (.inl (by simp+decide only[go_sem])),i+1,2,rfl,ag,rfl,rfl,aE⟩
  ·obtain rfl:i=l.length:=by omega
   have c1:¬(l.length:Int)<l.length:=by omega
   rw[List.drop_length]at aE;simp only[a5k]at aE
   (repeat first|simp only[ww]|(apply xa;simp+decide only[go_sem,c1];rfl;kernel_rfl))
   refine a8r (vs:=[.int .u8 out]) (r:=(_,_)) (by simp+decide only[go_sem]) (a1n hV rfl) ?_;rw[←aE];rfl
theorem b1o{l:List Nat}{V:AV}{H:a02}(hV:RA l V H)(hl:l.length<1000000){d:Bool}(low bf:Nat){a b:Int}(ha:a=low)(hb:b=bf):a09 L.env d (sem L.env Mf) (.func (.func 187) [] []) [V,.int .u8 a,.int .u8 b] H=some (.int .u8 (a5k low bf bf l:Nat),H,refs V):=by subst ha;subst hb;exact a5s hV (pre:=[]) (post:=[.int .u8 low,.int .u8 bf]) (by kernel_rfl) (by kernel_rfl) rfl rfl rfl (λV H hV=>c6v l V H hV hl low bf)
theorem e0f(l:List Nat)(V:AV)(H:a02)(hV:RA l V H)(hl:l.length<1000000):sem L.env Mf 161 [V] H=some (.int .u8 (a5k 0 1 1 l:Nat),H):=by
 have hc:=b1o hV hl (d:=false) 0 1 (a:=0) (b:=1) rfl rfl;generalize a5k 0 1 1 l=w at hc
 (refine sv Tryz.f161 ?_;simp only[Tryz.f161,gS])
 (repeat first|simp only[ww]|(apply xa;simp+decide only[go_sem,hc];rfl;kernel_rfl))
 refine a6r (vs:=[.int .u8 w]) (by simp+decide only[go_sem]) (a1n hV rfl)
theorem d09{l:List Nat}{V:AV}{H:a02}(hV:RA l V H)(hl:l.length<1000000){d:Bool}:a09 L.env d (sem L.env Mf) (.func (.func 161) [] []) [V] H=some (.int .u8 (a5k 0 1 1 l:Nat),H,refs V):=a5s hV (pre:=[]) (post:=[]) (by kernel_rfl) (by kernel_rfl) rfl rfl rfl (λV H hV=>e0f l V H hV hl)
theorem e53(l:List Nat)(V:AV)(H:a02)(hV:RA l V H)(hl:l.length<1000000):sem L.env Mf 162 [V] H=some (.int .u8 (a5k 1 0 0 l:Nat),H):=by
 have hc:=b1o hV hl (d:=false) 1 0 (a:=1) (b:=0) rfl rfl;generalize a5k 1 0 0 l=w at hc
 (refine sv Tryz.f162 ?_;simp only[Tryz.f162,gS])
 (repeat first|simp only[ww]|(apply xa;simp+decide only[go_sem,hc];rfl;kernel_rfl))
 refine a6r (vs:=[.int .u8 w]) (by simp+decide only[go_sem]) (a1n hV rfl)
theorem d4g{l:List Nat}{V:AV}{H:a02}(hV:RA l V H)(hl:l.length<1000000){d:Bool}:a09 L.env d (sem L.env Mf) (.func (.func 162) [] []) [V] H=some (.int .u8 (a5k 1 0 0 l:Nat),H,refs V):=a5s hV (pre:=[]) (post:=[]) (by kernel_rfl) (by kernel_rfl) rfl rfl rfl (λV H hV=>e53 l V H hV hl)
theorem e8t{a b:Nat}(ha:a≤1)(hb:b≤1):e9z .u8 (a:Int) (b:Int)=((a^^^b:Nat):Int)∧a^^^b≤1:=by
 have ha:a=0∨a=1:=by omega
 have hb:b=0∨b=1:=by omega
 rcases ha with rfl|rfl<;>rcases hb with rfl|rfl<;>exact⟨by decide,by decide⟩
theorem e07(l:List Nat)(V:AV)(H:a02)(hV:RA l V H)(hl:l.length<1000000):sem L.env Mf 163 [V] H=some (.int .u8 (b2i 0 l:Nat),H):=by
 have ai:=b9t hV
 suffices hs:∃r:AV×a02,(r=(.int .u8 (b2i 0 l:Nat),H))∧sem L.env Mf 163 [V] H=some r by obtain⟨r,rfl,h3⟩:=hs;exact h3
 (refine svE Tryz.f163 ?_;simp only[Tryz.f163,gS])
 (repeat first|simp only[ww]|(apply xa;simp+decide only[go_sem,ai];rfl;kernel_rfl))
 refine a1x kp163_0 (λn F H1=>∃(i out:Nat),n=l.length-i∧i≤l.length∧out≤1∧F=[(3,.int .u8 out),(6,V),(7,.int .i64 l.length),(8,.int .i64 i)]∧H1=H∧b2i out (l.drop i)=b2i 0 l) l.length ?_ ?_
 ·exact⟨_,_,b7u hV (by simp+decide only[go_sem]<;>rfl) (.inl (by simp+decide only[go_sem])),0,0,rfl,f0h _,by omega,rfl,rfl,rfl⟩
 ·rintro n F H1 ⟨i,out,rfl,hi,ho,rfl,rfl,aE⟩
  by_cases ag:i<l.length
  ·obtain⟨v,hv⟩:∃v,l[i]?=some v:=⟨_,z9e ag⟩
   obtain⟨p,cI,cH⟩:=b9u hV hv;have hd:l.drop i=v::l.drop (i+1):=by rw[←List.getElem_cons_drop ag,(e9k.1 hv).2]
   rw[hd]at aE;have c1:(i:Int)<l.length:=by omega
   have hw:=wI1 (n:=i) (by omega);have hk:=λH=>b3j (d:=false) H v;by_cases h1:v≤1
   ·obtain⟨hx,ik⟩:=e8t ho h1;simp only[b2i,f1r h1]at aE
    (repeat first|simp only[ww]|(apply xa;simp+decide only[go_sem,c1,cI,cH,hk,h1,hx,hw];rfl;kernel_rfl))
    refine a0p (l.length-(i+1)) (by omega) ⟨_,_,b7u hV (by simp+decide only[go_sem]<;>rfl) (.inl (by simp+decide only[go_sem])),i+1,out^^^v,rfl,ag,ik,rfl,rfl,aE⟩
   ·simp only[b2i,f0j h1]at aE
    (repeat first|simp only[ww]|(apply xa;simp+decide only[go_sem,c1,cI,cH,hk,h1];rfl;kernel_rfl))
    refine a1v (vs:=[.int .u8 2]) (r:=(_,_)) (by simp+decide only[go_sem]) (a1n hV rfl) ?_;rw[←aE];rfl
  ·obtain rfl:i=l.length:=by omega
   have c1:¬(l.length:Int)<l.length:=by omega
   rw[List.drop_length]at aE;simp only[b2i]at aE
   (repeat first|simp only[ww]|(apply xa;simp+decide only[go_sem,c1];rfl;kernel_rfl))
   refine a8r (vs:=[.int .u8 out]) (r:=(_,_)) (by simp+decide only[go_sem]) (a1n hV rfl) ?_;rw[←aE];rfl
theorem c9s{l:List Nat}{V:AV}{H:a02}(hV:RA l V H)(hl:l.length<1000000){d:Bool}:a09 L.env d (sem L.env Mf) (.func (.func 163) [] []) [V] H=some (.int .u8 (b2i 0 l:Nat),H,refs V):=a5s hV (pre:=[]) (post:=[]) (by kernel_rfl) (by kernel_rfl) rfl rfl rfl (λV H hV=>e07 l V H hV hl)
set_option maxHeartbeats 200000000
def b56(p:Nat→Bool)(l:List Nat):Int:=match l.findIdx? p with
 |some i=>i
 |none=>-1
theorem c4d{p:Nat→Bool}{l:List Nat}{i v:Nat}(hv:l[i]?=some v)(hp:p v=true)(hb:∀(j w:Nat),j<i→l[j]?=some w→p w=false):b56 p l=i:=by
 have ag:=(e9k.1 hv).1;have:l.findIdx? p=some i:=by rw[f3p];refine⟨ag,by rw[(e9k.1 hv).2];exact hp,λj hj=>?_⟩;have:=hb j _ hj (z9e (by omega));simp[this]
 unfold b56;rw[this]
theorem c0k{p:Nat→Bool}{l:List Nat}(hb:∀(j w:Nat),j<l.length→l[j]?=some w→p w=false):b56 p l = -1:=by
 have:l.findIdx? p=none:=by rw[List.findIdx?_eq_none_iff];intro x hx;obtain⟨j,hj⟩:=f3o.1 hx;exact hb j x (e9k.1 hj).1 hj
 unfold b56;rw[this]
theorem d0o(p:Nat→Bool)(l:List Nat):decide (0≤b56 p l)=l.any p:=by
 unfold b56;cases h:l.findIdx? p with
 |none=>
  have:=List.findIdx?_eq_none_iff.1 h;have e:l.any p=false:=by rw[List.any_eq_false];intro x hx;simp[this x hx]
  rw[e];rfl
 |some i=>obtain⟨hi,hp,_⟩:=f3p.1 h;have e:l.any p=true:=List.any_eq_true.2 ⟨_,List.getElem_mem hi,hp⟩;rw[e];simp
theorem d4i(l:List Nat)(V:AV)(H:a02)(hV:RA l V H)(hl:l.length<1000000)(f:AV)(p:Nat→Bool)(jf:refs f=[])(hf:∀(d:Bool) (H:a02) (v:Nat),a09 L.env d (sem L.env Mf) f [.int .u8 v] H=some (.bool (p v),H,[])) :
 sem L.env Mf 138 [V,f] H=some (.int .i64 (b56 p l),H):=by
 have ai:=b9t hV
 suffices hs:∃r:AV×a02,(r=(.int .i64 (b56 p l),H))∧sem L.env Mf 138 [V,f] H=some r by obtain⟨r,rfl,h3⟩:=hs;exact h3
 (refine svE Tryz.f138 ?_;simp only[Tryz.f138,gS])
 (repeat first|simp only[ww]|(apply xa;simp+decide only[go_sem,ai];rfl;kernel_rfl))
 refine a1x kp138_0 (λn F H1=>∃(i:Nat),n=l.length-i∧i≤l.length∧F=[(0,V),(1,f),(7,.int .i64 l.length),(8,.int .i64 i)]∧H1=H∧∀(j w:Nat),j<i→l[j]?=some w→p w=false) l.length ?_ ?_
 ·exact⟨_,_,b7u hV (by simp+decide only[go_sem]<;>rfl) (.inl (by simp+decide only[go_sem,jf])),0,rfl,f0h _,rfl,rfl,λj w hj=>by omega⟩
 ·rintro n F H1 ⟨i,rfl,hi,rfl,rfl,hb⟩
  by_cases ag:i<l.length
  ·obtain⟨v,hv⟩:∃v,l[i]?=some v:=⟨_,z9e ag⟩
   obtain⟨q,cI,cH⟩:=b9u hV hv;have c1:(i:Int)<l.length:=by omega
   have hw:=wI1 (n:=i) (by omega);have hc:=λd H=>hf d H v;cases hpv:p v with
   |true=>
    rw[hpv]at hc
    (repeat first|simp only[ww]|(apply xa;simp+decide only[go_sem,c1,cI,cH,hc];rfl;kernel_rfl))
    refine a1v (vs:=[.int .i64 i]) (r:=(_,_)) (by simp+decide only[go_sem]) (a1n hV rfl) ?_;rw[c4d hv hpv hb];rfl
   |false=>
    rw[hpv]at hc
    (repeat first|simp only[ww]|(apply xa;simp+decide only[go_sem,c1,cI,cH,hc,hw];rfl;kernel_rfl))
    refine a0p (l.length-(i+1)) (by omega) ⟨_,_,b7u hV (by simp+decide only[go_sem]<;>rfl) (.inl (by simp+decide only[go_sem,jf])),i+1,rfl,ag,rfl,rfl,λj w hj p9=>?_⟩;by_cases gv:j=i
    ·subst gv;rw[hv]at p9;cases p9;exact hpv
    ·exact hb j w (by omega) p9
  ·obtain rfl:i=l.length:=by omega
   have c1:¬(l.length:Int)<l.length:=by omega
   (repeat first|simp only[ww]|(apply xa;simp+decide only[go_sem,c1];rfl;kernel_rfl))
   refine a1v (vs:=[.int .i64 (-1)]) (r:=(_,_)) (by simp+decide only[go_sem]) (a1n hV rfl) ?_;rw[c0k hb];rfl
theorem b6e{l:List Nat}{V:AV}{H:a02}(hV:RA l V H)(hl:l.length<1000000){d:Bool}(f:AV)(p:Nat→Bool)(jf:refs f=[])(hf:∀(d:Bool) (H:a02) (v:Nat),a09 L.env d (sem L.env Mf) f [.int .u8 v] H=some (.bool (p v),H,[])) :
 a09 L.env d (sem L.env Mf) (.func (.func 138) [] []) [V,f] H=some (.int .i64 (b56 p l),H,refs V):=
 a5s hV (pre:=[]) (post:=[f]) (by kernel_rfl) (by kernel_rfl) rfl (by simp only[a0c,a3r,jf,e9n]) rfl (λV H hV=>d4i l V H hV hl f p jf hf)
theorem d06(l:List Nat)(V:AV)(H:a02)(hV:RA l V H)(hl:l.length<1000000)(f:AV)(p:Nat→Bool)(jf:refs f=[])(hf:∀(d:Bool) (H:a02) (v:Nat),a09 L.env d (sem L.env Mf) f [.int .u8 v] H=some (.bool (p v),H,[])) :
 sem L.env Mf 98 [V,f] H=some (.bool (l.any p),H):=by
 have hc:=λd=>b6e hV hl (d:=d) f p jf hf;have he:=d0o p l;generalize b56 p l=x at hc he;rw[←he]
 (refine sv Tryz.f98 ?_;simp only[Tryz.f98,gS])
 (repeat first|simp only[ww]|(apply xa;simp+decide only[go_sem,hc];rfl;kernel_rfl))
 refine a6r (vs:=[.bool _]) (by simp+decide only[go_sem]<;>rfl) (a1n hV rfl)
theorem c2m{l:List Nat}{V:AV}{H:a02}(hV:RA l V H)(hl:l.length<1000000){d:Bool}(f:AV)(p:Nat→Bool)(jf:refs f=[])(hf:∀(d:Bool) (H:a02) (v:Nat),a09 L.env d (sem L.env Mf) f [.int .u8 v] H=some (.bool (p v),H,[])) :
 a09 L.env d (sem L.env Mf) (.func (.func 98) [] []) [V,f] H=some (.bool (l.any p),H,refs V):=
 a5s hV (pre:=[]) (post:=[f]) (by kernel_rfl) (by kernel_rfl) rfl (by simp only[a0c,a3r,jf,e9n]) rfl (λV H hV=>d06 l V H hV hl f p jf hf)
theorem e0d(l:List Nat)(V:AV)(H:a02)(hV:RA l V H)(hl:l.length<1000000)(w:Nat):sem L.env Mf 206 [V,.int .u8 w] H=some (.int .i64 (b56 (λv=>decide (w=v)) l),H):=by
 have ai:=b9t hV
 suffices hs:∃r:AV×a02,(r=(.int .i64 (b56 (λv=>decide (w=v)) l),H))∧sem L.env Mf 206 [V,.int .u8 w] H=some r by obtain⟨r,rfl,h3⟩:=hs;exact h3
 (refine svE Tryz.f206 ?_;simp only[Tryz.f206,gS])
 (repeat first|simp only[ww]|(apply xa;simp+decide only[go_sem,ai];rfl;kernel_rfl))
 refine a1x kp206_0 (λn F H1=>∃(i:Nat),n=l.length-i∧i≤l.length∧F=[(0,V),(1,.int .u8 w),(7,.int .i64 l.length),(8,.int .i64 i)]∧H1=H∧∀(j v:Nat),j<i→l[j]?=some v→decide (w=v)=false) l.length ?_ ?_
 ·exact⟨_,_,b7u hV (by simp+decide only[go_sem]<;>rfl) (.inl (by simp+decide only[go_sem])),0,rfl,f0h _,rfl,rfl,λj w hj=>by omega⟩
 ·rintro n F H1 ⟨i,rfl,hi,rfl,rfl,hb⟩
  by_cases ag:i<l.length
  ·obtain⟨v,hv⟩:∃v,l[i]?=some v:=⟨_,z9e ag⟩
   obtain⟨q,cI,cH⟩:=b9u hV hv;have c1:(i:Int)<l.length:=by omega
   have hw:=wI1 (n:=i) (by omega);by_cases rd:w=v
   ·subst rd
    (repeat first|simp only[ww]|(apply xa;simp+decide only[go_sem,c1,cI,cH];rfl;kernel_rfl))
    refine a1v (vs:=[.int .i64 i]) (r:=(_,_)) (by simp+decide only[go_sem]) (a1n hV rfl) ?_;rw[c4d hv (by simp) hb];rfl
   ·have c2:¬(w:Int)=v:=by omega
    (repeat first|simp only[ww]|(apply xa;simp+decide only[go_sem,c1,cI,cH,c2,hw];rfl;kernel_rfl))
    refine a0p (l.length-(i+1)) (by omega) ⟨_,_,b7u hV (by simp+decide only[go_sem]<;>rfl) (.inl (by simp+decide only[go_sem])),i+1,rfl,ag,rfl,rfl,λj u hj qa=>?_⟩;by_cases gv:j=i
    ·subst gv;rw[hv]at qa;cases qa;simpa using rd
    ·exact hb j u (by omega) qa
  ·obtain rfl:i=l.length:=by omega
   have c1:¬(l.length:Int)<l.length:=by omega
   (repeat first|simp only[ww]|(apply xa;simp+decide only[go_sem,c1];rfl;kernel_rfl))
   refine a1v (vs:=[.int .i64 (-1)]) (r:=(_,_)) (by simp+decide only[go_sem]) (a1n hV rfl) ?_;rw[c0k hb];rfl
theorem d02{l:List Nat}{V:AV}{H:a02}(hV:RA l V H)(hl:l.length<1000000){d:Bool}(w:Nat):a09 L.env d (sem L.env Mf) (.func (.func 206) [] []) [V,.int .u8 w] H=some (.int .i64 (b56 (λv=>decide (w=v)) l),H,refs V):=a5s hV (pre:=[]) (post:=[.int .u8 w]) (by kernel_rfl) (by kernel_rfl) rfl rfl rfl (λV H hV=>e0d l V H hV hl w)
theorem d4j(l:List Nat)(V:AV)(H:a02)(hV:RA l V H)(hl:l.length<1000000)(w:Nat):sem L.env Mf 201 [V,.int .u8 w] H=some (.bool (decide (w∈l)),H):=by
 have hc:=λd=>d02 hV hl (d:=d) w;have he:=d0o (λv=>decide (w=v)) l;have hm:(l.any λv=>decide (w=v))=decide (w∈l):=by rw[f6l,List.any_eq_true,f0l];exact⟨λ⟨x,hx,h⟩=>by rw[of_decide_eq_true h];exact hx,λh=>⟨w,h,by simp⟩⟩
 rw[hm]at he;generalize b56 (λv=>decide (w=v)) l=x at hc he;rw[←he]
 (refine sv Tryz.f201 ?_;simp only[Tryz.f201,gS])
 (repeat first|simp only[ww]|(apply xa;simp+decide only[go_sem,hc];rfl;kernel_rfl))
 refine a6r (vs:=[.bool _]) (by simp+decide only[go_sem]<;>rfl) (a1n hV rfl)
theorem b6f{l:List Nat}{V:AV}{H:a02}(hV:RA l V H)(hl:l.length<1000000){d:Bool}(w:Nat){a:Int}(ha:a=w):a09 L.env d (sem L.env Mf) (.func (.func 201) [] []) [V,.int .u8 a] H=some (.bool (decide (w∈l)),H,refs V):=by subst ha;exact a5s hV (pre:=[]) (post:=[.int .u8 w]) (by kernel_rfl) (by kernel_rfl) rfl rfl rfl (λV H hV=>d4j l V H hV hl w)
theorem d4k(l:List Nat)(V:AV)(H:a02)(hV:RA l V H)(hl:l.length<1000000):sem L.env Mf 191 [V] H=some (.bool (decide (0∈l)&&decide (1∈l)),H):=by
 have h0:=λd=>b6f hV hl (d:=d) 0 (a:=0) rfl;have h1:=λd=>b6f hV hl (d:=d) 1 (a:=1) rfl;generalize decide (1∈l)=y at h1;cases hx:decide (0∈l)with
 |true=>
  rw[hx]at h0
  (refine sv Tryz.f191 ?_;simp only[Tryz.f191,gS])
  (repeat first|simp only[ww]|(apply xa;simp+decide only[go_sem,h0,h1];rfl;kernel_rfl))
  refine a6r (vs:=[.bool y]) (by simp+decide only[go_sem]) (a1n hV rfl)
 |false=>
  rw[hx]at h0
  (refine sv Tryz.f191 ?_;simp only[Tryz.f191,gS])
  (repeat first|simp only[ww]|(apply xa;simp+decide only[go_sem,h0,h1];rfl;kernel_rfl))
  refine a6r (vs:=[.bool false]) (by simp+decide only[go_sem]) (a1n hV rfl)
theorem c6c{l:List Nat}{V:AV}{H:a02}(hV:RA l V H)(hl:l.length<1000000){d:Bool}:a09 L.env d (sem L.env Mf) (.func (.func 191) [] []) [V] H=some (.bool (decide (0∈l)&&decide (1∈l)),H,refs V):=a5s hV (pre:=[]) (post:=[]) (by kernel_rfl) (by kernel_rfl) rfl rfl rfl (λV H hV=>d4k l V H hV hl)
theorem c17(v:Nat):sem L.env Mf 189 [.int .u8 v] []=some (.int .u8 (a2n v:Nat),[]):=by
 by_cases h:3<v
 ·have c:(3:Int)<v:=by omega
  rw[show a2n v=2 by simp[a2n,h]]
  (refine sv Tryz.f189 ?_;simp only[Tryz.f189,gS])
  (repeat first|simp only[ww]|(apply xa;simp+decide only[go_sem,c];rfl;kernel_rfl))
  (apply fqb;simp+decide only[go_sem]<;>rfl)
 ·have c:¬(3:Int)<v:=by omega
  rw[show a2n v=v by simp[a2n,h]]
  (refine sv Tryz.f189 ?_;simp only[Tryz.f189,gS])
  (repeat first|simp only[ww]|(apply xa;simp+decide only[go_sem,c];rfl;kernel_rfl))
  (apply fqb;simp+decide only[go_sem]<;>rfl)
theorem d4m(v:Nat):sem L.env Mf 188 [.int .u8 v] []=some (.bool (decide (a2n v=2)),[]):=by
 have hc:∀(d:Bool) H,a09 L.env d (sem L.env Mf) (.func (.func 189) [] []) [.int .u8 v] H=some (.int .u8 (a2n v:Nat),H,[]):=λd H=>a04 (by kernel_rfl) (by kernel_rfl) rfl rfl (c17 v) rfl;have e:decide (((a2n v:Nat):Int)=2)=decide (a2n v=2):=by rw[decide_eq_decide];omega
 generalize a2n v=w at hc e
 (refine sv Tryz.f188 ?_;simp only[Tryz.f188,gS])
 (repeat first|simp only[ww]|(apply xa;simp+decide only[go_sem,hc,e];rfl;kernel_rfl))
 (apply fqb;simp+decide only[go_sem]<;>rfl)
theorem d4l(v:Nat):sem L.env Mf 190 [.int .u8 v] []=some (.bool (decide (v≠3)),[]):=by
 have e:(!decide ((v:Int)=3))=decide (v≠3):=by
  by_cases h:v=3
  ·subst h;rfl
  ·have:¬(v:Int)=3:=by omega
   simp[h,this]
 (refine sv Tryz.f190 ?_;simp only[Tryz.f190,gS])
 (repeat first|simp only[ww]|(apply xa;simp+decide only[go_sem,e];rfl;kernel_rfl))
 (apply fqb;simp+decide only[go_sem]<;>rfl)
theorem e0e(l:List Nat)(V:AV)(H:a02)(hV:RA l V H)(hl:l.length<1000000):sem L.env Mf 166 [V] H=some (.int .u8 (c7o l:Nat),H):=by
 have h1:∀(d:Bool) (H:a02) (v:Nat),a09 L.env d (sem L.env Mf) (.func (.func 188) [] []) [.int .u8 v] H=some (.bool (decide (a2n v=2)),H,[]):=λd H v=>a04 (by kernel_rfl) (by kernel_rfl) rfl rfl (d4m v) rfl;have h2:∀(d:Bool) (H:a02) (v:Nat),a09 L.env d (sem L.env Mf) (.func (.func 190) [] []) [.int .u8 v] H=some (.bool (decide (v≠3)),H,[]):=λd H v=>a04 (by kernel_rfl) (by kernel_rfl) rfl rfl (d4l v) rfl;have c1:=λd=>b6e hV hl (d:=d) _ (λv=>decide (v≠3)) rfl h2;have c2:=λd=>c2m hV hl (d:=d) _ (λv=>decide (a2n v=2)) rfl h1;have c3:=λd=>c6c hV hl (d:=d);unfold c7o;unfold b56 at c1;cases hf:l.findIdx? (λv=>decide (v≠3))with
 |none=>
  rw[hf]at c1;dsimp only at c1⊢
  (refine sv Tryz.f166 ?_;simp only[Tryz.f166,gS])
  (repeat first|simp only[ww]|(apply xa;simp+decide only[go_sem,c1];rfl;kernel_rfl))
  refine a6r (vs:=[.int .u8 3]) (by simp+decide only[go_sem]) (a1n hV rfl)
 |some i=>
  rw[hf]at c1;dsimp only at c1⊢;have hi:=(f3p.1 hf).1;obtain⟨v,hv⟩:∃v,l[i]?=some v:=⟨_,z9e hi⟩
  obtain⟨q,cI,cH⟩:=b9u hV hv;have hg:l.getD i 0=v:=by rw[List.getD,hv];rfl
  have c0:¬(i:Int)<0:=by omega
  rw[hg];generalize(decide (0∈l)&&decide (1∈l))=x at c3⊢;generalize(l.any λv=>decide (a2n v=2))=y at c2⊢;cases x with
  |true=>
   (refine sv Tryz.f166 ?_;simp only[Tryz.f166,gS])
   (repeat first|simp only[ww]|(apply xa;simp+decide only[go_sem,c1,c2,c3,c0];rfl;kernel_rfl))
   refine a6r (vs:=[.int .u8 2]) (by simp+decide only[go_sem]) (a1n hV rfl)
  |false=>cases y with
   |true=>
    (refine sv Tryz.f166 ?_;simp only[Tryz.f166,gS])
    (repeat first|simp only[ww]|(apply xa;simp+decide only[go_sem,c1,c2,c3,c0];rfl;kernel_rfl))
    refine a6r (vs:=[.int .u8 2]) (by simp+decide only[go_sem]) (a1n hV rfl)
   |false=>
    (refine sv Tryz.f166 ?_;simp only[Tryz.f166,gS])
    (repeat first|simp only[ww]|(apply xa;simp+decide only[go_sem,c1,c2,c3,c0,cI,cH];rfl;kernel_rfl))
    refine a6r (vs:=[.int .u8 v]) (by simp+decide only[go_sem]) (a1n hV rfl)
theorem d08{l:List Nat}{V:AV}{H:a02}(hV:RA l V H)(hl:l.length<1000000){d:Bool}:a09 L.env d (sem L.env Mf) (.func (.func 166) [] []) [V] H=some (.int .u8 (c7o l:Nat),H,refs V):=a5s hV (pre:=[]) (post:=[]) (by kernel_rfl) (by kernel_rfl) rfl rfl rfl (λV H hV=>e0e l V H hV hl)
theorem d7n{l:List Nat}{V:AV}{H:a02}(h:RA l V H):a0i V=[]∨a0i V=[0]:=by
 cases h with
 |imm r=>exact .inl (by simp only[go_sem])
 |blk c af hf=>exact .inr rfl
theorem d9m{l:List Nat}{V:AV}{H:a02}(h:RA l V H){i v:Nat}(hi:l[i]?=some v):∃p,a0s L.env (a01 H) 49 V (.int .i64 i)=some p∧a5e L.env (a01 H) 42 p=some (.int .u8 v)∧a0i p=a0i V:=by
 have ag:=(e9k.1 hi).1;cases h with
 |imm r=>exact⟨_,by simp+decide only[go_sem,hi,ag]<;>rfl,by simp+decide only[go_sem,hi,ag],by simp+decide only[go_sem]⟩
 |blk c af hf=>
  have hg:(l.map u8R++af)[i]?=some [.int .u8 v]:=by rw[f0i (by simpa using ag),f0d,hi];rfl
  have gO:i<(l.map u8R++af).length:=by simp;omega
  exact⟨_,by simp+decide only[go_sem,hg,ag,gO]<;>rfl,by simp+decide only[go_sem,hg,ag,gO],by simp+decide only[go_sem]⟩
theorem b84(k:Nat)(hk:k<16)(l:List Nat)(V:AV)(H:a02)(hV:RA l V H)(hl:l.length<1000000):sem L.env Mf 121 [.int .u8 k,V] H=some (.int .u8 (a41 k l:Nat),H):=by
 have hf:=λd H=>b6r (d:=d) H k hk;have ai:=b9t hV;by_cases bH:l.length<a25 k
 ·have c1:(l.length:Int)<a25 k:=by omega
  rw[show a41 k l=2 by simp[a41,bH]]
  (refine sv Tryz.f121 ?_;simp only[Tryz.f121,gS])
  (repeat first|simp only[ww]|(apply xa;simp+decide only[go_sem,hf,c1,ai];rfl;kernel_rfl))
  refine a6r (vs:=[.int .u8 2]) (by simp+decide only[go_sem]) (a1n hV rfl)
 have c1:¬(l.length:Int)<a25 k:=by omega
 by_cases mf:a26 k<l.length
 ·have c2:(a26 k:Int)<l.length:=by omega
  rw[show a41 k l=2 by simp[a41,mf]]
  (refine sv Tryz.f121 ?_;simp only[Tryz.f121,gS])
  (repeat first|simp only[ww]|(apply xa;simp+decide only[go_sem,hf,c1,c2,ai];rfl;kernel_rfl))
  refine a6r (vs:=[.int .u8 2]) (by simp+decide only[go_sem]) (a1n hV rfl)
 have c2:¬(a26 k:Int)<l.length:=by omega
 rw[show a41 k l=a3m k l by unfold a41;rw[f0j (by omega)]];have lo:a25 k≤l.length:=by omega
 clear bH mf;have g:∀(i:Nat) (j:Int),j=i→i<a25 k→∃v p,l.getD i 2=v∧a0s L.env (a01 H) 49 V (.int .i64 j)=some p∧a5e L.env (a01 H) 42 p=some (.int .u8 v)∧a0i p=a0i V:=by
  intro i j hj hi;subst hj;obtain⟨v,hv⟩:∃v,l[i]?=some v:=⟨_,z9e (by omega)⟩
  obtain⟨p,h1,h2,h3⟩:=d9m hV hv;exact⟨v,p,by rw[List.getD,hv];rfl,h1,h2,h3⟩
 have ca:=λ(d:Bool)=>d09 hV hl (d:=d);have co:=λ(d:Bool)=>d4g hV hl (d:=d);have cx:=λ(d:Bool)=>c9s hV hl (d:=d);have cb:=λ(d:Bool)=>d08 hV hl (d:=d);have cn:=λ(d:Bool) (H:a02) (v:Nat)=>c9y (d:=d) H v;have cr:=λ(d:Bool) (H:a02) (v:Nat)=>a6m (d:=d) H v;have cm:=λ(d:Bool) (H:a02) (s a b:Nat)=>c9z (d:=d) H s a b;have ct:=λ(d:Bool) (H:a02) (a b:Nat)=>c9t (d:=d) H a b;have lg:k=0∨k=1∨k=2∨k=3∨k=4∨k=5∨k=6∨k=7∨k=8∨k=9∨k=10∨k=11∨k=12∨k=13∨k=14∨k=15:=by omega
 (refine sv Tryz.f121 ?_;simp only[Tryz.f121,gS])
 (repeat first|simp only[ww]|(apply xa;simp+decide only[go_sem,hf,c1,c2,ai];rfl;kernel_rfl))
 rcases lg with rfl|rfl|rfl|rfl|rfl|rfl|rfl|rfl|rfl|rfl|rfl|rfl|rfl|rfl|rfl|rfl
 ·rw[show a3m 0 l=2 from rfl]
  (repeat first|simp only[ww]|(apply xa;simp+decide only[go_sem];rfl;kernel_rfl))
  exact a6r (vs:=[.int .u8 _]) (by simp+decide only[go_sem]<;>rfl) (a1n hV rfl)
 ·rw[show a3m 1 l=0 from rfl]
  (repeat first|simp only[ww]|(apply xa;simp+decide only[go_sem];rfl;kernel_rfl))
  exact a6r (vs:=[.int .u8 _]) (by simp+decide only[go_sem]<;>rfl) (a1n hV rfl)
 ·rw[show a3m 2 l=1 from rfl]
  (repeat first|simp only[ww]|(apply xa;simp+decide only[go_sem];rfl;kernel_rfl))
  exact a6r (vs:=[.int .u8 _]) (by simp+decide only[go_sem]<;>rfl) (a1n hV rfl)
 ·obtain⟨v0,p0,e0,a0,b0,t0⟩:=g 0 0 rfl (by decide);rw[show a3m 3 l=a40 (l.getD 0 2)from rfl,e0]
  (repeat first|simp only[ww]|(apply xa;simp+decide only[go_sem,cr,a0,b0];rfl;kernel_rfl))
  exact a6r (vs:=[.int .u8 _]) (by simp+decide only[go_sem]<;>rfl) (a1n hV rfl)
 ·obtain⟨v0,p0,e0,a0,b0,t0⟩:=g 0 0 rfl (by decide);rw[show a3m 4 l=b1i (l.getD 0 2)from rfl,e0]
  (repeat first|simp only[ww]|(apply xa;simp+decide only[go_sem,cn,a0,b0];rfl;kernel_rfl))
  exact a6r (vs:=[.int .u8 _]) (by simp+decide only[go_sem]<;>rfl) (a1n hV rfl)
 ·rw[show a3m 5 l=a5k 0 1 1 l from rfl]
  (repeat first|simp only[ww]|(apply xa;simp+decide only[go_sem,ca];rfl;kernel_rfl))
  exact a6r (vs:=[.int .u8 _]) (by simp+decide only[go_sem]<;>rfl) (a1n hV rfl)
 ·rw[show a3m 6 l=b1i (a5k 0 1 1 l)from rfl]
  (repeat first|simp only[ww]|(apply xa;simp+decide only[go_sem,ca,cn];rfl;kernel_rfl))
  exact a6r (vs:=[.int .u8 _]) (by simp+decide only[go_sem]<;>rfl) (a1n hV rfl)
 ·rw[show a3m 7 l=a5k 1 0 0 l from rfl]
  (repeat first|simp only[ww]|(apply xa;simp+decide only[go_sem,co];rfl;kernel_rfl))
  exact a6r (vs:=[.int .u8 _]) (by simp+decide only[go_sem]<;>rfl) (a1n hV rfl)
 ·rw[show a3m 8 l=b1i (a5k 1 0 0 l)from rfl]
  (repeat first|simp only[ww]|(apply xa;simp+decide only[go_sem,co,cn];rfl;kernel_rfl))
  exact a6r (vs:=[.int .u8 _]) (by simp+decide only[go_sem]<;>rfl) (a1n hV rfl)
 ·rw[show a3m 9 l=b2i 0 l from rfl]
  (repeat first|simp only[ww]|(apply xa;simp+decide only[go_sem,cx];rfl;kernel_rfl))
  exact a6r (vs:=[.int .u8 _]) (by simp+decide only[go_sem]<;>rfl) (a1n hV rfl)
 ·rw[show a3m 10 l=b1i (b2i 0 l)from rfl]
  (repeat first|simp only[ww]|(apply xa;simp+decide only[go_sem,cx,cn];rfl;kernel_rfl))
  exact a6r (vs:=[.int .u8 _]) (by simp+decide only[go_sem]<;>rfl) (a1n hV rfl)
 ·obtain⟨v0,p0,e0,a0,b0,t0⟩:=g 0 0 rfl (by decide);obtain⟨v1,p1,e1,a1,b1,t1⟩:=g 1 1 rfl (by decide);obtain⟨v2,p2,e2,a2,b2,t2⟩:=g 2 2 rfl (by decide);rw[show a3m 11 l=b3a (l.getD 0 2) (l.getD 1 2) (l.getD 2 2)from rfl,e0,e1,e2];rcases d7n hV with htp|htp
  ·(repeat first|simp only[ww]|(apply xa;simp+decide only[go_sem,cm,a0,b0,a1,b1,a2,b2,t0,t1,t2,htp];rfl;kernel_rfl))
   exact a6r (vs:=[.int .u8 _]) (by simp+decide only[go_sem]<;>rfl) (a1n hV rfl)
  ·(repeat first|simp only[ww]|(apply xa;simp+decide only[go_sem,cm,a0,b0,a1,b1,a2,b2,t0,t1,t2,htp];rfl;kernel_rfl))
   exact a6r (vs:=[.int .u8 _]) (by simp+decide only[go_sem]<;>rfl) (a1n hV rfl)
 ·obtain⟨v0,p0,e0,a0,b0,t0⟩:=g 0 0 rfl (by decide);obtain⟨v1,p1,e1,a1,b1,t1⟩:=g 1 1 rfl (by decide);rw[show a3m 12 l=b96 (l.getD 0 2) (l.getD 1 2)from rfl,e0,e1];rcases d7n hV with htp|htp
  ·(repeat first|simp only[ww]|(apply xa;simp+decide only[go_sem,ct,a0,b0,a1,b1,t0,t1,htp];rfl;kernel_rfl))
   exact a6r (vs:=[.int .u8 _]) (by simp+decide only[go_sem]<;>rfl) (a1n hV rfl)
  ·(repeat first|simp only[ww]|(apply xa;simp+decide only[go_sem,ct,a0,b0,a1,b1,t0,t1,htp];rfl;kernel_rfl))
   exact a6r (vs:=[.int .u8 _]) (by simp+decide only[go_sem]<;>rfl) (a1n hV rfl)
 ·rw[show a3m 13 l=c7o l from rfl]
  (repeat first|simp only[ww]|(apply xa;simp+decide only[go_sem,cb];rfl;kernel_rfl))
  exact a6r (vs:=[.int .u8 _]) (by simp+decide only[go_sem]<;>rfl) (a1n hV rfl)
 ·rw[show a3m 14 l=2 from rfl]
  (repeat first|simp only[ww]|(apply xa;simp+decide only[go_sem];rfl;kernel_rfl))
  exact a6r (vs:=[.int .u8 _]) (by simp+decide only[go_sem]<;>rfl) (a1n hV rfl)
 ·rw[show a3m 15 l=2 from rfl]
  (repeat first|simp only[ww]|(apply xa;simp+decide only[go_sem];rfl;kernel_rfl))
  exact a6r (vs:=[.int .u8 _]) (by simp+decide only[go_sem]<;>rfl) (a1n hV rfl)
theorem c6a{l:List Nat}{V:AV}{H:a02}(hV:RA l V H)(hl:l.length<1000000){d:Bool}(k:Nat)(hk:k<16):a09 L.env d (sem L.env Mf) (.func (.func 121) [] []) [.int .u8 k,V] H=some (.int .u8 (a41 k l:Nat),H,refs V):=a5s hV (pre:=[.int .u8 k]) (post:=[]) (by kernel_rfl) (by kernel_rfl) rfl rfl rfl (λV H hV=>b84 k hk l V H hV hl)
theorem a2u(π:Nat→Option Nat)(l:List Nat):(l.map u8R).map (λr=>r.map (ren π))=l.map u8R:=a0b π (a2b l)
theorem a2h(l:List Nat):(l.map u8R).flatMap a08=[]:=a0e (a2b l)
theorem d3k(c:Cir)(hc:c.wf)(p:Pat)(hp:PatOk c.nodes p)(N0:List Nat)(hN:N0.length=c.nodes.length) :
 sem L.env Mf 120 [.agg [sl c.nc (c.nodes.map Nd.enc),sl c.mc (c.names.map a1s),.nilslice,sl c.oc (c.outs.map a0d),.slice 0 0 c.nodes.length (some c.nodes.length)],.agg p.enc] [some (.row 1 (N0.map u8R))]=some (.tuple [],[some (.row 1 ((a1f (a1f N0 (kinds c.nodes 0) p.ins) (kinds c.nodes 14) p.sts).map u8R))]):=by
 have ef:=hc.len;obtain⟨r0,e3⟩:=a78 (kinds c.nodes 0);obtain⟨r1,e4⟩:=a78 (kinds c.nodes 14);have hk0:=a3h c.nodes 0;have iJ:=a3h c.nodes 14;have hi:=λ(d:Bool) H=>a94 (d:=d) H c (by omega);have hs:=λ(d:Bool) H=>a6x (d:=d) H c (by omega);have kD:=hp.ins;have eH:=hp.sts;rw[e3]at hi;rw[e4]at hs;have dK:Pat.enc p=[sl p.ic (p.ins.map u8R),sl p.sc (p.sts.map u8R)]:=rfl;rw[dK];simp only[Cir.enc]at hi hs
 suffices hs:∃r:AV×a02,(r=(.tuple [],[some (.row 1 ((a1f (a1f N0 (kinds c.nodes 0) p.ins) (kinds c.nodes 14) p.sts).map u8R))]))∧sem L.env Mf 120 [.agg [sl c.nc (c.nodes.map Nd.enc),sl c.mc (c.names.map a1s),.nilslice,sl c.oc (c.outs.map a0d),.slice 0 0 c.nodes.length (some c.nodes.length)],.agg [sl p.ic (p.ins.map u8R),sl p.sc (p.sts.map u8R)]] [some (.row 1 (N0.map u8R))]=some r by obtain⟨r,rfl,h3⟩:=hs;exact h3
 (refine svE Tryz.f120 ?_;simp only[Tryz.f120,gS])
 (repeat first|simp only[ww]|(apply xa;simp+decide only[go_sem,hi];rfl;kernel_rfl))
 refine a1j (σ:=Nat) kp120_0 (λi=>[(2,.ptr 1 0 0),(3,.ptr 2 0 0),(10,sl r0 ((kinds c.nodes 0).map a0d)),(11,.int .i64 (kinds c.nodes 0).length),(12,.int .i64 i)])
  (λi=>[some (.row 1 ((a1f N0 ((kinds c.nodes 0).take i) (p.ins.take i)).map u8R)),some (.row 5 [[sl c.nc (c.nodes.map Nd.enc),sl c.mc (c.names.map a1s),.nilslice,sl c.oc (c.outs.map a0d),.slice 0 0 c.nodes.length (some c.nodes.length)]]),some (.row 2 [[sl p.ic (p.ins.map u8R),sl p.sc (p.sts.map u8R)]])]) (λi=>(kinds c.nodes 0).length-i) (λi=>i≤(kinds c.nodes 0).length) 0 ?_ (f0h _) ?_
 ·rw[f2q,f2q,show a1f N0 [] []=N0 from rfl]
  (simp+decide only[go_sem,a03,a00,a2u,a2h]<;>rfl)<;>rfl
 ·intro i hi;have bl:=a2v ((kinds c.nodes 0).take i) (p.ins.take i) N0;rw[hN]at bl;by_cases ag:i<(kinds c.nodes 0).length
  ·obtain⟨n,hn⟩:∃n,(kinds c.nodes 0)[i]?=some n:=⟨_,z9e ag⟩
   obtain⟨w,hw⟩:∃w,p.ins[i]?=some w:=⟨_,z9e (by omega)⟩
   have dU:=(a6o hn).1;have aw:=a8l (nets:=N0) hn hw;have c1:(i:Int)<(kinds c.nodes 0).length:=by omega
   have bO:=wI1 (n:=i) (by omega);have g9:i<p.ins.length:=by omega
   generalize a1f N0 ((kinds c.nodes 0).take i) (p.ins.take i)=N at aw bl;obtain⟨w0,cA⟩:∃w,N[n]?=some w:=⟨_,z9e (by omega)⟩
   have iw:(N.map u8R).set n [AV.int .u8 w]=(N.set n w).map u8R:=by rw[f3y];rfl
   (repeat first|simp only[ww]|(apply xa;simp+decide only[go_sem,c1,ag,hn,hw,dU,bO,g9,bl,cA,iw];rfl;kernel_rfl))
   refine a4g (i+1) ?_ (by omega) (by omega);rw[aw]
   (simp+decide only[go_sem,a03,a00,a2u,a2h]<;>rfl)<;>rfl
  have eh:i=(kinds c.nodes 0).length:=by omega
  subst eh;have c1:¬((kinds c.nodes 0).length:Int)<(kinds c.nodes 0).length:=by omega
  rw[f3a,f0f (by omega)]at bl⊢;generalize a1f N0 (kinds c.nodes 0) p.ins=N1 at bl⊢
  (repeat first|simp only[ww]|(apply xa;simp+decide only[go_sem,c1,hs];rfl;kernel_rfl))
  refine a1j (σ:=Nat) kp120_2 (λi=>[(2,.ptr 1 0 0),(3,.ptr 2 0 0),(29,sl r1 ((kinds c.nodes 14).map a0d)),(30,.int .i64 (kinds c.nodes 14).length),(31,.int .i64 i)])
   (λi=>[some (.row 1 ((a1f N1 ((kinds c.nodes 14).take i) (p.sts.take i)).map u8R)),some (.row 5 [[sl c.nc (c.nodes.map Nd.enc),sl c.mc (c.names.map a1s),.nilslice,sl c.oc (c.outs.map a0d),.slice 0 0 c.nodes.length (some c.nodes.length)]]),some (.row 2 [[sl p.ic (p.ins.map u8R),sl p.sc (p.sts.map u8R)]])]) (λi=>(kinds c.nodes 14).length-i) (λi=>i≤(kinds c.nodes 14).length) 0 ?_ (f0h _) ?_
  ·rw[f2q,f2q,show a1f N1 [] []=N1 from rfl]
   (simp+decide only[go_sem,a03,a00,a2u,a2h]<;>rfl)<;>rfl
  ·intro i hi;have lc:=a2v ((kinds c.nodes 14).take i) (p.sts.take i) N1;rw[bl]at lc;by_cases ag:i<(kinds c.nodes 14).length
   ·obtain⟨n,hn⟩:∃n,(kinds c.nodes 14)[i]?=some n:=⟨_,z9e ag⟩
    obtain⟨w,hw⟩:∃w,p.sts[i]?=some w:=⟨_,z9e (by omega)⟩
    have dU:=(a6o hn).1;have aw:=a8l (nets:=N1) hn hw;have c1:(i:Int)<(kinds c.nodes 14).length:=by omega
    have bO:=wI1 (n:=i) (by omega);have g9:i<p.sts.length:=by omega
    generalize a1f N1 ((kinds c.nodes 14).take i) (p.sts.take i)=N at aw lc;obtain⟨w0,cA⟩:∃w,N[n]?=some w:=⟨_,z9e (by omega)⟩
    have iw:(N.map u8R).set n [AV.int .u8 w]=(N.set n w).map u8R:=by rw[f3y];rfl
    (repeat first|simp only[ww]|(apply xa;simp+decide only[go_sem,c1,ag,hn,hw,dU,bO,g9,lc,cA,iw];rfl;kernel_rfl))
    refine a4g (i+1) ?_ (by omega) (by omega);rw[aw]
    (simp+decide only[go_sem,a03,a00,a2u,a2h]<;>rfl)<;>rfl
   have eh:i=(kinds c.nodes 14).length:=by omega
   subst eh;have c1:¬((kinds c.nodes 14).length:Int)<(kinds c.nodes 14).length:=by omega
   rw[f3a,f0f (by omega)]
   (repeat first|simp only[ww]|(apply xa;simp+decide only[go_sem,c1];rfl;kernel_rfl))
   refine a8r (vs:=[]) (r:=(_,[_])) (by simp+decide only[go_sem]) ?_ rfl;simp+decide only[go_sem,a2u]<;>rfl
def a59:List Nat→AV
 | []=>.nilslice
 |v::r=>.islice ((v::r).map u8R) (some (r.length+1))
theorem b2g(l:List Nat):∃r:Rep,a59 l=sl r (l.map u8R):=by
 cases l with
 |nil=>exact⟨none,rfl⟩
 |cons v r=>exact⟨some (some (r.length+1)),rfl⟩
theorem a2i(l:List Nat):refs (a59 l)=[]:=by cases l<;>rfl
def b0e(o x:List Nat):AV:=.agg [a59 o,a59 x]
theorem a6i(o x:List Nat):refs (b0e o x)=[]:=by simp only[b0e,a1a,a0c,a2i,a3r,e9n]
theorem c85(c:Cir)(nets:List Nat)(hl:nets.length=c.nodes.length)(hv:∀v∈nets,v≤3)(n v:Nat)(hn:nets[n]?=some v):sem L.env Mf 167 [.agg [sl c.nc (c.nodes.map Nd.enc),sl c.mc (c.names.map a1s),.nilslice,sl c.oc (c.outs.map a0d),.slice 0 0 c.nodes.length (some c.nodes.length)],.int .i64 n] [some (.row 1 (nets.map u8R))]=some (.int .u8 v,[some (.row 1 (nets.map u8R))]):=by
 have ag:=(e9k.1 hn).1;have h0:¬(n:Int)<0:=by omega
 have h1:¬(c.nodes.length:Int)≤n:=by omega
 have h2:n<c.nodes.length:=by omega
 have hc:∀(d:Bool) H,a09 L.env d (sem L.env Mf) (.func (.func 189) [] []) [.int .u8 v] H=some (.int .u8 v,H,[]):=λd H=>by have:=a04 (E:=L.env) (ah:=d) (call:=sem L.env Mf) (fs:=[]) (cs:=[]) (ar:=[.int .u8 v]) (v:=.int .u8 (a2n v:Nat)) (H:=H) (g:=189) (by kernel_rfl) (by kernel_rfl) rfl rfl (c17 v) rfl;rw[c52 (hv v (c10 hn))]at this;exact this
 (refine sv Tryz.f167 ?_;simp only[Tryz.f167,gS])
 (repeat first|simp only[ww]|(apply xa;simp+decide only[go_sem,h0,h1,h2,hl,hn,hc];rfl;kernel_rfl))
 refine a6r (vs:=[.int .u8 v]) (by simp+decide only[go_sem]) ?_;simp+decide only[go_sem,a2u]<;>rfl
theorem c1t{d:Bool}{H:a02}{b:Nat}(c:Cir)(nets:List Nat)(hl:nets.length=c.nodes.length)(hv:∀v∈nets,v≤3)(n v:Nat)(hn:nets[n]?=some v)(hb:a01 H b=some (.row 1 (nets.map u8R))) :
 a09 L.env d (sem L.env Mf) (.func (.func 167) [] []) [.agg [sl c.nc (c.nodes.map Nd.enc),sl c.mc (c.names.map a1s),.nilslice,sl c.oc (c.outs.map a0d),.slice b 0 c.nodes.length (some c.nodes.length)],.int .i64 n] H=some (.int .u8 v,H,[b]):=
 a1q (fs:=[]) (cs:=[]) (ar:=[.agg [sl c.nc (c.nodes.map Nd.enc),sl c.mc (c.names.map a1s),.nilslice,sl c.oc (c.outs.map a0d),.slice b 0 c.nodes.length (some c.nodes.length)],.int .i64 n]) (by kernel_rfl) (by kernel_rfl) rfl hb (a0f (a2b nets)) (FlatO.row (a2b nets)) (by simp only[e9q,e9n,go_sem]) (ap:=[.agg [sl c.nc (c.nodes.map Nd.enc),sl c.mc (c.names.map a1s),.nilslice,sl c.oc (c.outs.map a0d),.slice 0 0 c.nodes.length (some c.nodes.length)],.int .i64 n]) (by simp only[e9q,e9n,e12,e9p,c24,a1t,b5q,a7w,c8w]) (c85 c nets hl hv n v hn) rfl
theorem d68(n:Nat)(rows:List (List AV))(hf:FlatR rows):sem L.env Mf 131 [.slice 0 0 n none] [some (.row 1 rows)]=some (.slice 0 0 n (some n),[some (.row 1 rows)]):=by
 have h1:=λπ=>a0b π hf
 (refine sv Tryz.f131 ?_;simp only[Tryz.f131,gS])
 (repeat first|simp only[ww]|(apply xa;simp+decide only[go_sem];rfl;kernel_rfl))
 (apply fqb;simp+decide only[go_sem,h1]<;>rfl)
theorem a8p{d:Bool}{H:a02}{b n:Nat}{rows:List (List AV)}(hf:FlatR rows)(hb:a01 H b=some (.row 1 rows)):a09 L.env d (sem L.env Mf) (.func (.func 131) [] []) [.slice b 0 n none] H=some (.slice b 0 n (some n),H,[b]):=by have h:=a3k (E:=L.env) (ah:=d) (call:=sem L.env Mf) (g:=131) (fs:=[]) (cs:=[]) (ar:=[.slice b 0 n none]) (H:=H) (b:=b) (by kernel_rfl) (by kernel_rfl) rfl hb (a0f hf) (FlatO.row hf) rfl (ap:=[AV.slice 0 0 n none]) (by simp only[e9q,e9n,e12,e9p,a1t]) (d68 n rows hf) (FlatO.row hf) (a4t b 0 _ n _);rw[a5c hb]at h;exact h
theorem d1v:sem L.env Mf 131 [.nilslice] []=some (.nilslice,[]):=by
 (refine sv Tryz.f131 ?_;simp only[Tryz.f131,gS])
 (repeat first|simp only[ww]|(apply xa;simp+decide only[go_sem];rfl;kernel_rfl))
 (apply fqb;simp+decide only[go_sem]<;>rfl)
theorem b4j{d:Bool}(H:a02):a09 L.env d (sem L.env Mf) (.func (.func 131) [] []) [.nilslice] H=some (.nilslice,H,[]):=a04 (by kernel_rfl) (by kernel_rfl) rfl rfl d1v rfl
def a3s(nodes:List Nd)(nets:List Nat):List Nat:=(kinds nodes 14).map λn=>a40 (nets.getD ((a1y nodes n).getD 0 0) 0)
def a1e(outs nets:List Nat):List Nat:=outs.map λn=>nets.getD n 0
theorem d8z(c:Cir)(hc:c.wf)(hO:c.outs≠[])(nets:List Nat)(hl:nets.length=c.nodes.length)(hv:∀v∈nets,v≤3):sem L.env Mf 122 [.agg [sl c.nc (c.nodes.map Nd.enc),sl c.mc (c.names.map a1s),.nilslice,sl c.oc (c.outs.map a0d),.slice 0 0 c.nodes.length (some c.nodes.length)]] [some (.row 1 (nets.map u8R))]=some (b0e (a1e c.outs nets) (a3s c.nodes nets),[some (.row 1 (nets.map u8R))]):=by
 have ef:=hc.len;have dS:=hc.outl;obtain⟨r1,e4⟩:=a78 (kinds c.nodes 14);have iJ:=a3h c.nodes 14;have hs:=λ(d:Bool) H=>a6x (d:=d) H c (by omega);rw[e4]at hs;simp only[Cir.enc]at hs;have cq:=λ(d:Bool) (H:a02) (n v:Nat) (hn:nets[n]?=some v) (hb:a01 H 0=some (.row 1 (nets.map u8R)))=>c1t (d:=d) (H:=H) (b:=0) c nets hl hv n v hn hb;have jK:=a2b nets;have n1:=a0e jK;have n2:=λπ=>a0b π jK
 suffices hs:∃r:AV×a02,(r=(b0e (a1e c.outs nets) (a3s c.nodes nets),[some (.row 1 (nets.map u8R))]))∧sem L.env Mf 122 [.agg [sl c.nc (c.nodes.map Nd.enc),sl c.mc (c.names.map a1s),.nilslice,sl c.oc (c.outs.map a0d),.slice 0 0 c.nodes.length (some c.nodes.length)]] [some (.row 1 (nets.map u8R))]=some r by obtain⟨r,rfl,h3⟩:=hs;exact h3
 (refine svE Tryz.f122 ?_;simp only[Tryz.f122,gS])
 generalize hNR:nets.map u8R=NR at cq jK n1 n2
 (repeat first|simp only[ww]|(apply xa;simp+decide only[go_sem];rfl;kernel_rfl))
 refine a1x kp122_0 (λn F H=>∃i,n=c.outs.length-i∧i≤c.outs.length∧F=[(1,.ptr 1 0 0),(2,.ptr 2 0 0),(3,.ptr 3 0 0),(12,sl c.oc (c.outs.map a0d)),(13,.int .i64 c.outs.length),(14,.int .i64 i)]∧H=[some (.row 1 NR),some (.row 5 [[sl c.nc (c.nodes.map Nd.enc),sl c.mc (c.names.map a1s),.nilslice,sl c.oc (c.outs.map a0d),.slice 0 0 c.nodes.length (some c.nodes.length)]]),some (.row 2 [[.nilslice,.nilslice]]),some (.row 2 [[grV 4 ((a1e (c.outs.take i) nets).map u8R),.nilslice]])]++grH 1 ((a1e (c.outs.take i) nets).map u8R)) c.outs.length ?_ ?_
 ·refine⟨_,_,?_,0,rfl,f0h _,rfl,rfl⟩;rw[f2q,show a1e [] nets=[]from rfl]
  (simp+decide only[go_sem,a03,a00,a0q,a0r,e9p,n1,n2]<;>rfl)<;>rfl
 ·rintro n F H ⟨i,rfl,hi,rfl,rfl⟩
  have eQ:((a1e (c.outs.take i) nets).map u8R).length=i:=by simp[a1e];omega
  have dH:=a2b (a1e (c.outs.take i) nets);by_cases ag:i<c.outs.length
  ·obtain⟨o,ho⟩:∃o,c.outs[i]?=some o:=⟨_,z9e ag⟩
   have l6:=hc.outs o (c10 ho);obtain⟨v,j0⟩:∃v,nets[o]?=some v:=⟨_,z9e (by omega)⟩
   have c1:(i:Int)<c.outs.length:=by omega
   have bO:=wI1 (n:=i) (by omega);have cB:(a1e (c.outs.take (i+1)) nets).map u8R=(a1e (c.outs.take i) nets).map u8R++[[.int .u8 v]]:=by unfold a1e;rw[a1d ho,f2o,f2o];simp only[e12,e9p,List.getD,j0,f3i];rfl
   have dc:=λ(d:Bool) (H:a02) (hb:a01 H 0=some (.row 1 NR))=>cq d H o v j0 hb;generalize(a1e (c.outs.take i) nets).map u8R=T at eQ dH cB;have cO:=a0e dH;have dI:=λπ=>a0b π dH;cases T with
   |nil=>
    have dc:=λ(d:Bool) (x1 x2 x3:Option AObj)=>dc d [some (.row 1 NR),x1,x2,x3] rfl
    (repeat first|simp only[ww]|(apply xa;simp+decide only[go_sem,c1,ag,ho,bO,dc,a0q,a0r];rfl;kernel_rfl))
    refine a0p (c.outs.length-(i+1)) (by omega) ⟨_,_,?_,i+1,rfl,ag,rfl,rfl⟩;rw[cB]
    (simp+decide only[go_sem,a03,a00,a06,a07,e9q,f0g,n1,n2]<;>rfl)<;>rfl
   |cons a r=>
    simp only[e9m]at eQ;have aO:r.length+1+1≤1000000000:=by omega
    simp only[f4c]at cO;simp only[e12,List.cons.injEq]at dI;have dc:=λ(d:Bool) (x1 x2 x3 x4:Option AObj)=>dc d [some (.row 1 NR),x1,x2,x3,x4] rfl
    (repeat first|simp only[ww]|(apply xa;simp+decide only[go_sem,c1,ag,ho,bO,dc,a06,a07,aO];rfl;kernel_rfl))
    refine a0p (c.outs.length-(i+1)) (by omega) ⟨_,_,?_,i+1,rfl,ag,rfl,rfl⟩;rw[cB]
    (simp+decide only[go_sem,a03,a00,a06,a07,f0k,cO,dI,n1,n2]<;>rfl)<;>rfl
  ·obtain rfl:i=c.outs.length:=by omega
   have c1:¬(c.outs.length:Int)<c.outs.length:=by omega
   rw[f3a]at eQ dH⊢;have ue:0<c.outs.length:=List.length_pos_iff.2 hO;have qL:a59 (a1e c.outs nets) = .islice ((a1e c.outs nets).map u8R) (some c.outs.length):=by
    have ee:(a1e c.outs nets).length=c.outs.length:=by simp[a1e]
    cases ho:a1e c.outs nets with
    |nil=>rw[ho]at ee;simp at ee;omega
    |cons v q=>rw[ho]at ee;simp only[e9m]at ee;rw[←ee];rfl
   unfold b0e;rw[qL];generalize(a1e c.outs nets).map u8R=T at eQ dH;cases T with
   |nil=>simp at eQ;omega
   |cons a r=>
    have eE:r.length+1=c.outs.length:=by simpa using eQ
    have cO:=a0e dH;have dI:=λπ=>a0b π dH;have ox:=λ(m:Nat) (q:AV→Option AV)=>a1g m q dH;simp only[f4c]at cO;simp only[e12,List.cons.injEq]at dI
    (repeat first|simp only[ww]|(apply xa;simp+decide only[go_sem,c1,hs,a06,a07];rfl;kernel_rfl))
    refine a1x kp122_2 (λn F H=>∃i,n=(kinds c.nodes 14).length-i∧i≤(kinds c.nodes 14).length∧F=[(1,.ptr 1 0 0),(2,.ptr 2 0 0),(3,.ptr 3 0 0),(29,sl r1 ((kinds c.nodes 14).map a0d)),(30,.int .i64 (kinds c.nodes 14).length),(31,.int .i64 i)]∧H=[some (.row 1 NR),some (.row 5 [[sl c.nc (c.nodes.map Nd.enc),sl c.mc (c.names.map a1s),.nilslice,sl c.oc (c.outs.map a0d),.slice 0 0 c.nodes.length (some c.nodes.length)]]),some (.row 2 [[.nilslice,.nilslice]]),some (.row 2 [[.slice 4 0 (r.length+1) none,grV 5 (((a3s c.nodes nets).take i).map u8R)]]),some (.row 1 (a::r))]++grH 1 (((a3s c.nodes nets).take i).map u8R)) (kinds c.nodes 14).length ?_ ?_
    ·refine⟨_,_,?_,0,rfl,f0h _,rfl,rfl⟩;rw[f2q]
     (simp+decide only[go_sem,a03,a00,a0q,a0r,e9p,n1,n2,cO,dI]<;>rfl)<;>rfl
    ·rintro n F H ⟨i,rfl,hi,rfl,rfl⟩
     have o4:(a3s c.nodes nets).length=(kinds c.nodes 14).length:=by simp[a3s]
     have gD:(((a3s c.nodes nets).take i).map u8R).length=i:=by simp;omega
     have eF:=a2b ((a3s c.nodes nets).take i);by_cases ag:i<(kinds c.nodes 14).length
     ·obtain⟨q,hq⟩:∃q,(kinds c.nodes 14)[i]?=some q:=⟨_,z9e ag⟩
      obtain⟨lX,pI⟩:=a6o hq;obtain⟨x,hx⟩:∃x,c.nodes[q]?=some x:=⟨_,z9e lX⟩
      have eb:x.kind=14:=by rw[←a15 hx];exact pI
      have ik:x.ins.length=1:=by have h1:=hc.lo x (c10 hx);have h2:=hc.hi x (c10 hx);rw[eb]at h1 h2;have e1:a25 14=1:=rfl;have e2:a26 14=1:=rfl;omega
      obtain⟨m,hm⟩:∃m,x.ins[0]?=some m:=⟨_,z9e (by omega)⟩
      have dL:=hc.ins x (c10 hx) m (c10 hm);obtain⟨v,j0⟩:∃v,nets[m]?=some v:=⟨_,z9e (by omega)⟩
      have fa:((a3s c.nodes nets).take (i+1)).map u8R=((a3s c.nodes nets).take i).map u8R++[[.int .u8 (a40 v)]]:=by
       have:(a3s c.nodes nets)[i]?=some (a40 v):=by unfold a3s;rw[f0d,hq];simp only[f0e,a1o hx,List.getD,hm,j0,f3i]
       rw[a1d this,f2o];rfl
      have c1:(i:Int)<(kinds c.nodes 14).length:=by omega
      have bO:=wI1 (n:=i) (by omega);have dZ:decide ((x.ins.length:Int)=1)=true:=f2x (by omega);have sJ:Ax.rowAt (x.ins.map a0d) 0=some [AV.int .i64 m]:=by have:=c8s (x.ins.map a0d) 0;rw[Int.natCast_zero]at this;rw[this,f0d,hm];rfl
      have dc:=λ(d:Bool) (H:a02) (hb:a01 H 0=some (.row 1 NR))=>cq d H m v j0 hb;have iz:=λ(d:Bool) (H:a02)=>a6m (d:=d) H v;generalize a40 v=w at fa iz;generalize((a3s c.nodes nets).take i).map u8R=X at gD eF fa;have lP:=a0e eF;have lO:=λπ=>a0b π eF;cases X with
      |nil=>
       have dc:=λ(d:Bool) (x1 x2 x3 x4:Option AObj)=>dc d [some (.row 1 NR),x1,x2,x3,x4] rfl
       (repeat first|simp only[ww]|(apply xa;simp+decide only[go_sem,c1,ag,hq,lX,hx,dZ,sJ,hm,bO,dc,iz,a0q,a0r];rfl;kernel_rfl))
       refine a0p ((kinds c.nodes 14).length-(i+1)) (by omega) ⟨_,_,?_,i+1,rfl,ag,rfl,rfl⟩;rw[fa]
       (simp+decide only[go_sem,a03,a00,a06,a07,e9q,f0g,n1,n2,cO,dI]<;>rfl)<;>rfl
      |cons a2 r2=>
       simp only[e9m]at gD;have aO:r2.length+1+1≤1000000000:=by omega
       simp only[f4c]at lP;simp only[e12,List.cons.injEq]at lO;have dc:=λ(d:Bool) (x1 x2 x3 x4 x5:Option AObj)=>dc d [some (.row 1 NR),x1,x2,x3,x4,x5] rfl
       (repeat first|simp only[ww]|(apply xa;simp+decide only[go_sem,c1,ag,hq,lX,hx,dZ,sJ,hm,bO,dc,iz,a06,a07,aO];rfl;kernel_rfl))
       refine a0p ((kinds c.nodes 14).length-(i+1)) (by omega) ⟨_,_,?_,i+1,rfl,ag,rfl,rfl⟩;rw[fa]
       (simp+decide only[go_sem,a03,a00,a06,a07,f0k,lP,lO,n1,n2,cO,dI]<;>rfl)<;>rfl
     ·obtain rfl:i=(kinds c.nodes 14).length:=by omega
      have c1:¬((kinds c.nodes 14).length:Int)<(kinds c.nodes 14).length:=by omega
      have kg:=λ(d:Bool) (x0 x1 x2 x3:Option AObj) (R:a02)=>a8p (d:=d) (H:=x0::x1::x2::x3::some (.row 1 (a::r))::R) (b:=4) (n:=r.length+1) dH rfl;rw[f0f (by omega)]at gD eF⊢;cases hX:a3s c.nodes nets with
      |nil=>
       have gB:=λ(d:Bool) (H:a02)=>b4j (d:=d) H
       (repeat first|simp only[ww]|(apply xa;simp+decide only[go_sem,c1,kg,gB,e9p,a0q,a0r];rfl;kernel_rfl))
       refine a1v (vs:=[.agg [.slice 4 0 (r.length+1) (some (r.length+1)),.nilslice]]) (r:=(_,_)) (by simp+decide only[go_sem]) ?_ rfl;show a10 false 1 (.agg [.slice 4 0 (r.length+1) (some (r.length+1)),.nilslice]) _=_;have fg:List.take (r.length+1) (a::r)=a::r:=f3a (l:=a::r);rw[←eE];unfold a59;simp+decide only[go_sem,ox,n2,fg]<;>rfl
      |cons a2 r2=>
       rw[hX]at gD eF;have iV:=λ(d:Bool) (x0 x1 x2 x3 x4:Option AObj)=>a8p (d:=d) (H:=[x0,x1,x2,x3,x4,some (.row 1 ((a2::r2).map u8R))]) (b:=5) (n:=r2.length+1) eF rfl;have oy:=λ(m:Nat) (q:AV→Option AV)=>a1g m q eF;have cJ:(r2.map u8R).length=r2.length:=c11 ..;simp only[e12,u8R]at iV oy eF⊢
       (repeat first|simp only[ww]|(apply xa;simp+decide only[go_sem,c1,kg,iV,a06,a07,cJ];rfl;kernel_rfl))
       refine a1v (vs:=[.agg [.slice 4 0 (r.length+1) (some (r.length+1)),.slice 5 0 (r2.length+1) (some (r2.length+1))]]) (r:=(_,_)) (by simp+decide only[go_sem]) ?_ rfl;show a10 false 1 (.agg [.slice 4 0 (r.length+1) (some (r.length+1)),.slice 5 0 (r2.length+1) (some (r2.length+1))]) _=_;have fg:List.take (r.length+1) (a::r)=a::r:=f3a (l:=a::r);have kH:List.take (r2.length+1) ([AV.int .u8 a2]::r2.map u8R)=[AV.int .u8 a2]::r2.map u8R:=f0f (by simp);rw[←eE];unfold a59;simp only[e12,u8R];simp+decide only[go_sem,ox,oy,n2,fg,kH]<;>rfl
theorem c5p{d:Bool}{H:a02}{b:Nat}(c:Cir)(hc:c.wf)(p:Pat)(hp:PatOk c.nodes p)(N0:List Nat)(hN:N0.length=c.nodes.length)(hb:a01 H b=some (.row 1 (N0.map u8R))) :
 a09 L.env d (sem L.env Mf) (.func (.func 120) [] []) [.agg [sl c.nc (c.nodes.map Nd.enc),sl c.mc (c.names.map a1s),.nilslice,sl c.oc (c.outs.map a0d),.slice b 0 c.nodes.length (some c.nodes.length)],.agg [sl p.ic (p.ins.map u8R),sl p.sc (p.sts.map u8R)]] H=some (.tuple [],H.set b (some (.row 1 ((a1f (a1f N0 (kinds c.nodes 0) p.ins) (kinds c.nodes 14) p.sts).map u8R))),[b]):=
 a3k (fs:=[]) (cs:=[]) (ar:=[.agg [sl c.nc (c.nodes.map Nd.enc),sl c.mc (c.names.map a1s),.nilslice,sl c.oc (c.outs.map a0d),.slice b 0 c.nodes.length (some c.nodes.length)],.agg [sl p.ic (p.ins.map u8R),sl p.sc (p.sts.map u8R)]]) (by kernel_rfl) (by kernel_rfl) rfl hb (a0f (a2b N0)) (FlatO.row (a2b N0)) (by simp only[e9q,e9n,go_sem]) (ap:=[.agg [sl c.nc (c.nodes.map Nd.enc),sl c.mc (c.names.map a1s),.nilslice,sl c.oc (c.outs.map a0d),.slice 0 0 c.nodes.length (some c.nodes.length)],.agg [sl p.ic (p.ins.map u8R),sl p.sc (p.sts.map u8R)]]) (by simp only[e9q,e9n,e12,e9p,c24,a1t,b5q,a7w]) (d3k c hc p hp N0 hN) (FlatO.row (a2b _)) rfl
theorem c8f{d:Bool}{H:a02}{b:Nat}(c:Cir)(hc:c.wf)(hO:c.outs≠[])(nets:List Nat)(hl:nets.length=c.nodes.length)(hv:∀v∈nets,v≤3)(hb:a01 H b=some (.row 1 (nets.map u8R))) :
 a09 L.env d (sem L.env Mf) (.func (.func 122) [] []) [.agg [sl c.nc (c.nodes.map Nd.enc),sl c.mc (c.names.map a1s),.nilslice,sl c.oc (c.outs.map a0d),.slice b 0 c.nodes.length (some c.nodes.length)]] H=some (b0e (a1e c.outs nets) (a3s c.nodes nets),H,[b]):=
 a1q (fs:=[]) (cs:=[]) (ar:=[.agg [sl c.nc (c.nodes.map Nd.enc),sl c.mc (c.names.map a1s),.nilslice,sl c.oc (c.outs.map a0d),.slice b 0 c.nodes.length (some c.nodes.length)]]) (by kernel_rfl) (by kernel_rfl) rfl hb (a0f (a2b nets)) (FlatO.row (a2b nets)) (by simp only[e9q,e9n,go_sem]) (ap:=[.agg [sl c.nc (c.nodes.map Nd.enc),sl c.mc (c.names.map a1s),.nilslice,sl c.oc (c.outs.map a0d),.slice 0 0 c.nodes.length (some c.nodes.length)]]) (by simp only[e9q,e9n,e12,e9p,c24,a1t,b5q,a7w]) (d8z c hc hO nets hl hv) (a6i _ _)
theorem c0b{d:Bool}{H:a02}{b:Nat}(k:Nat)(hk:k<16)(l:List Nat)(hl:l.length<1000000)(cp:Option Nat)(X:List (List AV))(hX:FlatR X)(gD:X.take l.length=l.map u8R)(hb:a01 H b=some (.row 1 X)){m:Nat}(hm:m=l.length) :
 a09 L.env d (sem L.env Mf) (.func (.func 121) [] []) [.int .u8 k,.slice b 0 m cp] H=some (.int .u8 (a41 k l:Nat),H,[b]):=by
 subst hm;have hs:X=l.map u8R++X.drop l.length:=by rw[←gD,f7b]
 have hr:=b84 k hk l (.slice 0 0 l.length cp) [some (.row 1 (l.map u8R++X.drop l.length))] (.blk cp _ (by rw[←hs];exact hX)) hl;rw[←hs]at hr;exact a1q (fs:=[]) (cs:=[]) (ar:=[.int .u8 k,.slice b 0 l.length cp]) (by kernel_rfl) (by kernel_rfl) rfl hb (a0f hX) (FlatO.row hX) (by simp only[e9q,e9n,go_sem]) (ap:=[.int .u8 k,.slice 0 0 l.length cp]) (by simp only[e9q,e9n,e12,e9p,a1t,c8w]) hr rfl
theorem c5r{d:Bool}(H:a02)(c:Cir)(h:c.wf)(p:Pat)(hp:PatOk c.nodes p):a09 L.env d (sem L.env Mf) (.func (.func 50) [] []) [.agg c.enc,.agg p.enc] H=some (.int .i64 0,H,[]):=a04 (by kernel_rfl) (by kernel_rfl) rfl (by simp only[a0c,a1a,Cir.enc,Pat.enc,go_sem]) (d18 c h p hp) rfl
theorem a27(l:List Nat):(a59 l).storable=true:=by cases l<;>rfl
def a4l(c:Cir)(ord:List Nat)(p:Pat):List Nat:=a9m nAlg c.nodes hk0 ord (kinds c.nodes 0) (kinds c.nodes 14) p.ins p.sts
theorem f5u{X:List (List AV)}{j n:Nat}{x:List AV}(hl:X.length=n)(hj:j<n):(X.take j++[x]++X.drop (j+1)).length=n∧(X.take j++[x]++X.drop (j+1)).take (j+1)=X.take j++[x]:=by refine⟨by simp;omega,?_⟩;rw[List.take_append_of_le_length (by simp;omega),f0f (by simp;omega)]
theorem d0k{X:List (List AV)}{j:Nat}{x:List AV}(hX:FlatR X)(hx:a08 x=[]):FlatR (X.take j++[x]++X.drop (j+1)):=by
 intro r hr;simp only[f2w,f1s]at hr;rcases hr with (hr|rfl)|hr
 ·exact hX r (List.mem_of_mem_take hr)
 ·exact hx
 ·exact hX r (List.mem_of_mem_drop hr)
theorem b83:∀(is vs N:List Nat),(∀v∈N,v≤3)→(∀v∈vs,v≤3)→∀v∈a1f N is vs,v≤3
 | [],vs,N,h,_=>by cases vs<;>exact h
 |_::_,[],N,h,_=>h
 |i::is,w::vs,N,h,hv=>by
  simp only[a1f];refine b83 is vs _ (λv hm=>?_) (λv hm=>hv v (f7d _ hm));rcases f3j hm with h1|h1
  ·exact h v h1
  ·rw[h1];exact hv w (List.mem_cons_self ..)
theorem d9l{nodes:List Nd}{N:List Nat}{n:Nat}(h:∀v∈N,v≤3):∀v∈a11 nAlg nodes hk0 N n,v≤3:=by
 have key:∀(l:List Nat) (p:Nat),∀v∈a2j nAlg hk0 n N p l,v≤3:=by
  intro l
  induction l with
  |nil=>intro p v hv;simp[a2j]at hv
  |cons m l ih=>
   intro p v hv;simp only[a2j,f2s]at hv;rcases hv with rfl|hv
   ·show N.getD m 0≤3;rw[List.getD];cases hm:N[m]? with
    |none=>decide
    |some w=>exact h w (c10 hm)
   ·exact ih _ v hv
 exact key _ _
theorem d8y(c:Cir)(hc:c.wf)(hO:c.outs≠[])(p:Pat)(hp:PatOk c.nodes p)(ord:List Nat)(aP:OrdOf c ord):sem L.env Mf 87 [.agg c.enc,.agg p.enc] []=some (.tuple [b0e (a1e c.outs (a4l c ord p)) (a3s c.nodes (a4l c ord p)),.islice ((a4l c ord p).map u8R) (some c.nodes.length),.int .i64 0],[]):=by
 have ef:=hc.len;have aO:c.nodes.length≤1000000000:=by omega
 have ho:=aP.call;have bT:∀n∈ord,n<c.nodes.length:=λn hn=>by have:=aP.perm.mem_iff.1 hn;simpa using this
 have dS:ord.length=c.nodes.length:=by rw[aP.perm.length_eq];simp
 have sa:=λ(d:Bool) H=>c5r (d:=d) H c hc p hp;have cw:c.enc=[sl c.nc (c.nodes.map Nd.enc),sl c.mc (c.names.map a1s),.nilslice,sl c.oc (c.outs.map a0d)]:=rfl;have dK:Pat.enc p=[sl p.ic (p.ins.map u8R),sl p.sc (p.sts.map u8R)]:=rfl;rw[cw,dK]at sa;rw[cw]at ho;rw[cw,dK];have pX:=λ(d:Bool) (x0 x1 x2 x4:Option AObj)=>c5p (d:=d) (H:=[x0,x1,x2,some (.row 1 ((List.replicate c.nodes.length 0).map u8R)),x4]) (b:=3) c hc p hp (List.replicate c.nodes.length 0) (by simp) rfl;have eC:=λ(d:Bool) (x0 x1 x3:Option AObj) (N:List Nat) (hl:N.length=c.nodes.length) (hv:∀v∈N,v≤3)=>c8f (d:=d) (H:=[x0,x1,some (.row 1 (N.map u8R)),x3]) (b:=2) c hc hO N hl hv rfl;have n8:(a1f (a1f (List.replicate c.nodes.length 0) (kinds c.nodes 0) p.ins) (kinds c.nodes 14) p.sts).length=c.nodes.length:=by rw[a2v,a2v];simp
 have gn:∀v∈a1f (a1f (List.replicate c.nodes.length 0) (kinds c.nodes 0) p.ins) (kinds c.nodes 14) p.sts,v≤3:=b83 _ _ _ (b83 _ _ _ (λv hv=>by rw[f4n hv];omega) hp.inv) hp.stv;have hG:a4l c ord p=ord.foldl (Pc.stepG nAlg c.nodes hk0) (a1f (a1f (List.replicate c.nodes.length 0) (kinds c.nodes 0) p.ins) (kinds c.nodes 14) p.sts):=rfl;rw[hG];have pB:(List.replicate c.nodes.length 0).map u8R=List.replicate c.nodes.length [AV.int .u8 0]:=by rw[List.map_replicate];rfl
 rw[pB]at pX;generalize a1f (a1f (List.replicate c.nodes.length 0) (kinds c.nodes 0) p.ins) (kinds c.nodes 14) p.sts=N1 at pX n8 gn⊢
 suffices hs:∃r:AV×a02,(r=(.tuple [b0e (a1e c.outs (ord.foldl (Pc.stepG nAlg c.nodes hk0) N1)) (a3s c.nodes (ord.foldl (Pc.stepG nAlg c.nodes hk0) N1)),.islice ((ord.foldl (Pc.stepG nAlg c.nodes hk0) N1).map u8R) (some c.nodes.length),.int .i64 0],[]))∧sem L.env Mf 87 [.agg [sl c.nc (c.nodes.map Nd.enc),sl c.mc (c.names.map a1s),.nilslice,sl c.oc (c.outs.map a0d)],.agg [sl p.ic (p.ins.map u8R),sl p.sc (p.sts.map u8R)]] []=some r by obtain⟨r,rfl,h3⟩:=hs;exact h3
 (refine svE Tryz.f87 ?_;simp only[Tryz.f87,gS])
 (repeat first|simp only[ww]|(apply xa;simp+decide only[go_sem,ho,sa,aO,pX];rfl;kernel_rfl))
 refine a1x kp87_0 (λn F H=>∃(i q:Nat) (X:List (List AV)),n=ord.length-i∧i≤ord.length∧q≤16∧X.length=16∧FlatR X∧(∀v∈(ord.take i).foldl (Pc.stepG nAlg c.nodes hk0) N1,v≤3)∧F=[(4,.ptr 0 0 0),(9,.ptr 1 0 0),(10,.slice 3 0 q (some 16)),(40,.islice (ord.map a0d) (some c.nodes.length)),(41,.int .i64 ord.length),(42,.int .i64 i)]∧H=[some (.row 2 [[.nilslice,.nilslice]]),some (.row 5 [[sl c.nc (c.nodes.map Nd.enc),sl c.mc (c.names.map a1s),.nilslice,sl c.oc (c.outs.map a0d),.slice 2 0 c.nodes.length (some c.nodes.length)]]),some (.row 1 (((ord.take i).foldl (Pc.stepG nAlg c.nodes hk0) N1).map u8R)),some (.row 1 X)]) ord.length ?_ ?_
 ·refine⟨_,_,?_,0,0,List.replicate 16 [.int .u8 0],rfl,f0h _,by omega,rfl,λr hr=>by rw[f4n hr];rfl,by rw[f2q];exact gn,rfl,rfl⟩;rw[f2q,List.foldl_nil]
  (simp+decide only[go_sem,a03,a00,a2u,a2h]<;>rfl)<;>rfl
 ·rintro n F H ⟨i,q,X,rfl,hi,hq,gD,eF,gY,rfl,rfl⟩
  have bl:=a9v (A:=nAlg) (nodes:=c.nodes) (h:=hk0) (ord.take i) N1;rw[n8]at bl;have x1:=a0e eF;have x2:=λπ=>a0b π eF;by_cases ag:i<ord.length
  ·obtain⟨n,hn⟩:∃n,ord[i]?=some n:=⟨_,z9e ag⟩
   have dU:=bT n (c10 hn);obtain⟨x,hx⟩:∃x,c.nodes[n]?=some x:=⟨_,z9e dU⟩
   have dy:=c10 hx;have k14:=hc.kind x dy;have cW:=hc.insl dy;have md:=a15 hx;have hs:=c0p (A:=nAlg) (nodes:=c.nodes) (h:=hk0) (nets:=N1) hn;have c1:(i:Int)<ord.length:=by omega
   have bO:=wI1 (n:=i) (by omega);have bV:=λ(d:Bool) H=>b4g (d:=d) H x.kind (by omega);have uz:x.enc=[.int .u8 x.kind,sl x.c (x.ins.map a0d),.int .i64 x.mem,.int .i64 x.bit]:=rfl;generalize(ord.take i).foldl (Pc.stepG nAlg c.nodes hk0) N1=N at hs bl gY;obtain⟨w0,cA⟩:∃w,N[n]?=some w:=⟨_,z9e (by omega)⟩
   by_cases dv:a1l x.kind=true
   ·have au:a0l c.nodes n≠0∧a0l c.nodes n≠14:=by
     rw[md];constructor<;>(intro e;rw[e]at dv;exact absurd dv (by decide))
    have lg:x.kind<16:=by omega
    have sC:a1y c.nodes n=x.ins:=a1o hx;have kq:(a11 nAlg c.nodes hk0 N n).length=x.ins.length:=by rw[a6j,sC]
    have oZ:=d9l (nodes:=c.nodes) (n:=n) gY
    (repeat first|simp only[ww]|(apply xa;simp+decide only[go_sem,c1,ag,hn,hx,dU,bV,dv];rfl;kernel_rfl))
    refine a1x kp87_2 (λm F H=>∃(j:Nat) (Y:List (List AV)),m=x.ins.length-j∧j≤x.ins.length∧Y.length=16∧FlatR Y∧Y.take j=((a11 nAlg c.nodes hk0 N n).take j).map u8R∧F=[(4,.ptr 0 0 0),(9,.ptr 1 0 0),(10,.slice 3 0 j (some 16)),(12,.int .i64 n),(13,.ptr 4 0 0),(40,.islice (ord.map a0d) (some c.nodes.length)),(41,.int .i64 ord.length),(42,.int .i64 i),(59,sl x.c (x.ins.map a0d)),(60,.int .i64 x.ins.length),(61,.int .i64 j)]∧H=[some (.row 2 [[.nilslice,.nilslice]]),some (.row 5 [[sl c.nc (c.nodes.map Nd.enc),sl c.mc (c.names.map a1s),.nilslice,sl c.oc (c.outs.map a0d),.slice 2 0 c.nodes.length (some c.nodes.length)]]),some (.row 1 (N.map u8R)),some (.row 1 Y),some (.row 4 [[.int .u8 x.kind,sl x.c (x.ins.map a0d),.int .i64 x.mem,.int .i64 x.bit]])]) x.ins.length ?_ ?_
    ·refine⟨_,_,?_,0,X,rfl,f0h _,gD,eF,rfl,rfl,rfl⟩
     (simp+decide only[go_sem,a03,a00,a2u,a2h,x1,x2]<;>rfl)<;>rfl
    ·rintro m F H ⟨j,Y,rfl,hj,qJ,lI,sr,rfl,rfl⟩
     have y1:=a0e lI;have y2:=λπ=>a0b π lI;by_cases bu:j<x.ins.length
     ·obtain⟨u,hu⟩:∃u,x.ins[j]?=some u:=⟨_,z9e bu⟩
      have kF:=hc.ins x dy u (c10 hu);obtain⟨v,hv⟩:∃v,N[u]?=some v:=⟨_,z9e (by omega)⟩
      have d1:(j:Int)<x.ins.length:=by omega
      have tc:=wI1 (n:=j) (by omega);have fj:=b5u (A:=nAlg) (h:=hk0) (nodes:=c.nodes) (nets:=N) (n:=n) (i:=j) (by rw[sC];exact hu) hv;obtain⟨z1,z2⟩:=f5u (x:=[AV.int .u8 v]) qJ (show j<16 by omega);have z3:=d0k (j:=j) (x:=[AV.int .u8 v]) lI rfl;generalize hZ:Y.take j++[[AV.int .u8 v]]++Y.drop (j+1)=Z at z1 z2 z3;rw[sr]at z2;have w1:=a0e z3;have w2:=λπ=>a0b π z3;have qd:j≤16:=by omega
      have qc:j+1≤16:=by omega
      (repeat first|simp only[ww]|(apply xa;simp+decide only[go_sem,d1,bu,hu,kF,hv,bl,tc,qJ,qd,qc,hZ,f3e];rfl;kernel_rfl))
      refine a0p (x.ins.length-(j+1)) (by omega) ⟨_,_,?_,j+1,Z,rfl,bu,z1,z3,?_,rfl,rfl⟩
      ·(simp+decide only[go_sem,a03,a00,a2u,a2h,w1,w2,hZ]<;>rfl)<;>rfl
      ·rw[z2,fj,f2o];rfl
     ·obtain rfl:j=x.ins.length:=by omega
      have d1:¬(x.ins.length:Int)<x.ins.length:=by omega
      have eO:=λ(d:Bool) (x0 x1 x2 x4:Option AObj)=>c0b (d:=d) (H:=[x0,x1,x2,some (.row 1 Y),x4]) (b:=3) x.kind lg (a11 nAlg c.nodes hk0 N n) (by omega) (some 16) Y lI (by rw[kq,sr,f0f (by omega)]) rfl (m:=x.ins.length) kq.symm;have bm:Pc.stepG nAlg c.nodes hk0 N n=N.set n (a41 x.kind (a11 nAlg c.nodes hk0 N n)):=by unfold Pc.stepG;rw[f1r au,md];show N.set n (a41 x.kind ((a11 nAlg c.nodes hk0 N n).map a2n))=_;rw[b3e oZ]
      have bd:=c43 x.kind _ oZ;rw[bm]at hs;generalize a41 x.kind (a11 nAlg c.nodes hk0 N n)=w at eO hs bd;have iw:(N.map u8R).set n [AV.int .u8 w]=(N.set n w).map u8R:=by rw[f3y];rfl
      (repeat first|simp only[ww]|(apply xa;simp+decide only[go_sem,d1,eO,dU,bl,cA,iw,bO];rfl;kernel_rfl))
      refine a0p (ord.length-(i+1)) (by omega) ⟨_,_,?_,i+1,x.ins.length,Y,rfl,ag,by omega,qJ,lI,?_,rfl,rfl⟩
      ·rw[hs]
       (simp+decide only[go_sem,a03,a00,a2u,a2h,y1,y2]<;>rfl)<;>rfl
      ·rw[hs];intro v hv;rcases f3j hv with h1|h1
       ·exact gY v h1
       ·rw[h1];exact bd
   ·have dv:a1l x.kind=false:=by simpa using dv
    have bm:Pc.stepG nAlg c.nodes hk0 N n=N:=by
     have au:¬(a0l c.nodes n≠0∧a0l c.nodes n≠14):=by rw[md];intro hh;simp[a1l]at dv;omega
     unfold Pc.stepG;rw[f0j au];show N.set n (N.getD n 0)=N;rw[List.getD,cA,f3i];have:=(e9k.1 cA)
     rw[←this.2];exact List.set_getElem_self this.1
    rw[bm]at hs
    (repeat first|simp only[ww]|(apply xa;simp+decide only[go_sem,c1,ag,hn,hx,dU,bV,dv,bO];rfl;kernel_rfl))
    refine a0p (ord.length-(i+1)) (by omega) ⟨_,_,?_,i+1,q,X,rfl,ag,hq,gD,eF,by rw[hs];exact gY,rfl,rfl⟩;rw[hs]
    (simp+decide only[go_sem,a03,a00,a2u,a2h,x1,x2]<;>rfl)<;>rfl
  ·obtain rfl:i=ord.length:=by omega
   have c1:¬(ord.length:Int)<ord.length:=by omega
   rw[f3a]at bl gY⊢;generalize ord.foldl (Pc.stepG nAlg c.nodes hk0) N1=N at bl gY⊢;have eC:=λ(d:Bool) (x0 x1 x3:Option AObj)=>eC d x0 x1 x3 N bl gY;unfold b0e at eC⊢;have q1:=a2i (a1e c.outs N);have fX:=a27 (a1e c.outs N);have mP:=a27 (a3s c.nodes N);have q2:=a2i (a3s c.nodes N);generalize a59 (a1e c.outs N)=V1 at eC q1 fX⊢;generalize a59 (a3s c.nodes N)=V2 at eC q2 mP⊢;have s1:V1.storable=true:=fX;have s2:V2.storable=true:=mP;have jK:=a2b N;have r1:∀π,ren π V1=V1:=λπ=>a0x π _ q1;have r2:∀π,ren π V2=V2:=λπ=>a0x π _ q2;have f1:=λm t d=>a4i m t d V1 q1;have f2:=λm t d=>a4i m t d V2 q2;have f3:=λm d=>a1g m d jK;have fg:(N.map u8R).take c.nodes.length=N.map u8R:=f0f (by simp;omega)
   (repeat first|simp only[ww]|(apply xa;simp+decide only[go_sem,c1,eC,s1,s2];rfl;kernel_rfl))
   refine a1v (vs:=[.agg [V1,V2],.slice 2 0 c.nodes.length (some c.nodes.length),.int .i64 0]) (r:=(_,_)) (by simp+decide only[go_sem]) ?_ rfl;show a10 false 0 (.tuple [.agg [V1,V2],.slice 2 0 c.nodes.length (some c.nodes.length),.int .i64 0]) _=_;simp+decide only[go_sem,f1,f2,f3,fg,bl]<;>rfl
end Go.QInst
