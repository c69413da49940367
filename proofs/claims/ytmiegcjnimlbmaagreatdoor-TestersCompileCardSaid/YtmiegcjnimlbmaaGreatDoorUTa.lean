/- Part of a proof. No condition. -/
import Derived.Test.YtmiegcjnimlbmaaGreatDoorUGa
import Derived.Test.YtmiegcjnimlbmaaGreatDoorUNe
import Derived.Test.YtmiegcjnimlbmaaGreatDoorULives
import Derived.Test.YtmiegcjnimlbmaaGreatDoorAxD
import Derived.Test.YtmiegcjnimlbmaaGreatDoorAxA
import Derived.Test.YtmiegcjnimlbmaaGreatDoorUIn
set_option linter.unusedSimpArgs false
set_option linter.unusedVariables false
namespace Go.UInst
open Go.Proofs Go.Ax Go.Pc
set_option maxRecDepth 100000
/- a circuit a49 memory -/
theorem c56(x:CX)(hx:x.ok):sem L.env Mf 15 [.agg x.enc] []=some (.agg (a9g x).cir.enc,[]):=by
 have hx':(a9g x).ok:=⟨hx.1,hx.2,hx.3,hx.4,hx.5,hx.6⟩
 have hc:=λH=>c9a (d:=false) H (a9g x) hx' rfl;generalize(a9g x).cir=c at hc;simp only[go_sem,a9g]at hc;simp only[Cir.enc]at hc
 (refine sv Tryz.f15 ?_;simp only[Tryz.f15,gS])
 (repeat first|simp only[ww]|(apply xa;simp+decide only[go_sem,hc];rfl;kernel_rfl))
 (apply fqb;simp+decide only[go_sem,Cir.enc]<;>rfl)
theorem loose_call{d:Bool}(H:a03)(x:CX)(hx:x.ok):a0m L.env d (sem L.env Mf) (.func (.func 15) [] []) [.agg x.enc] H=some (.agg (a9g x).cir.enc,H,[]):=a06 (by kernel_rfl) (by kernel_rfl) rfl (by simp only[go_sem]) (c56 x hx) (a4r _)
/- the inputs of a sequence of patterns -/
def inR(q:Pat):List AV:=[sl q.ic (q.ins.map u8R)]
theorem b3z(q:Pat):a0i (inR q)=[]:=by simp only[inR,a0h,a1b,a26,List.append_nil]
theorem a8m(l:List Pat):FlatR (l.map inR):=FlatR.map b3z
theorem c9q(π:Nat→Option Nat)(q:Pat):(inR q).map (ren π)=inR q:=by have h:=a08 π (FlatR.cons (b3z q) FlatR.nil);simpa using h
attribute [go_sem] List.getElem?_map
def oS(j:Nat):List UInt8:=[111,UInt8.ofNat (48+j)]
/- names -/
theorem d41{P:Nat→Prop}(h0:P 0)(h1:P 1)(h2:P 2)(h3:P 3):∀i,i<4→P i:=by
 intro i hi;have:i=0∨i=1∨i=2∨i=3:=by omega
 rcases this with rfl|rfl|rfl|rfl<;>assumption
theorem c95:∀i:Nat,i<4→sem L.env Mf 14 [.str (a1n i)] []=some (.bool true,[]):=d41 (a0g (E:=L.env) a0f 60 (by kernel_rfl)) (a0g (E:=L.env) a0f 60 (by kernel_rfl)) (a0g (E:=L.env) a0f 60 (by kernel_rfl)) (a0g (E:=L.env) a0f 60 (by kernel_rfl))
theorem c94:∀i:Nat,i<4→sem L.env Mf 14 [.str (oS i)] []=some (.bool true,[]):=d41 (a0g (E:=L.env) a0f 60 (by kernel_rfl)) (a0g (E:=L.env) a0f 60 (by kernel_rfl)) (a0g (E:=L.env) a0f 60 (by kernel_rfl)) (a0g (E:=L.env) a0f 60 (by kernel_rfl))
theorem c9o:∀i:Nat,i<4→sem L.env Mf 36 [.int .i64 i] []=some (.str [UInt8.ofNat (48+i)],[]):=d41 (a0g (E:=L.env) a0f 60 (by kernel_rfl)) (a0g (E:=L.env) a0f 60 (by kernel_rfl)) (a0g (E:=L.env) a0f 60 (by kernel_rfl)) (a0g (E:=L.env) a0f 60 (by kernel_rfl))
theorem c2b{d:Bool}(H:a03)(i:Nat)(hi:i<4):a0m L.env d (sem L.env Mf) (.func (.func 36) [] []) [.int .i64 i] H=some (.str [UInt8.ofNat (48+i)],H,[]):=a06 (by kernel_rfl) (by kernel_rfl) rfl rfl (c9o i hi) rfl
def b4r(s:List UInt8):Prop:=sem L.env Mf 14 [.str s] []=some (.bool true,[])
theorem b2a{d:Bool}{s:List UInt8}(h:b4r s)(H:a03):a0m L.env d (sem L.env Mf) (.func (.func 14) [] []) [.str s] H=some (.bool true,H,[]):=a06 (by kernel_rfl) (by kernel_rfl) rfl rfl h rfl
/- signals -/
structure Sgn where
 nm:List UInt8
 dir:Nat
def Sgn.row(s:Sgn):List AV:=[.str s.nm,.int .u8 s.dir]
def b87:AV:=.func (.func 38) [] []
theorem c8r(s:Sgn)(h:b4r s.nm):sem L.env Mf 38 [.agg s.row] []=some (.bool false,[]):=by
 have hn:=λH=>b2a (d:=false) h H;simp only[Sgn.row]
 (refine sv Tryz.f38 ?_;simp only[Tryz.f38,gS])
 (repeat first|simp only[ww]|(apply xa;simp+decide only[go_sem,hn];rfl;kernel_rfl))
 (apply fqb;simp+decide only[go_sem]<;>rfl)
theorem c1l{d:Bool}(H:a03)(s:Sgn)(h:b4r s.nm):a0m L.env d (sem L.env Mf) (.func (.func 38) [] []) [.agg s.row] H=some (.bool false,H,[]):=a06 (by kernel_rfl) (by kernel_rfl) rfl rfl (c8r s h) rfl
theorem a2k(l:List Sgn):FlatR (l.map Sgn.row):=FlatR.map λ_=>rfl
theorem c2k(cp:Option Nat)(l:List Sgn)(hl:l.length<1000000)(hc:∀v∈l,b4r v.nm) :
 sem L.env Mf 88 [.islice (l.map Sgn.row) cp,b87] []=some (.int .i64 (-1),[]):=by
 unfold b87
 (refine sv Tryz.f88 ?_;simp only[Tryz.f88,gS])
 (repeat first|simp only[ww]|(apply xa;simp+decide only[go_sem];rfl;kernel_rfl))
 refine a0n (σ:=Nat) kp88_0 (λi=>[(0,.islice (l.map Sgn.row) cp),(1,b87),(7,.int .i64 l.length),(8,.int .i64 i)])
  (λ_=>[]) (λi=>l.length-i) (λi=>i≤l.length) 0 ?_ (Nat.zero_le _) ?_
 ·unfold b87
  (simp+decide only[go_sem,a02,a00,List.length_map]<;>rfl)
 ·intro i hi;unfold b87;by_cases hlt:i<l.length
  ·obtain⟨x,hx⟩:∃x,l[i]?=some x:=⟨_,z9e hlt⟩
   have c1:(i:Int)<l.length:=by omega
   have hw:=wI1 (n:=i) (by omega);have hcx:=λH=>c1l (d:=false) H x (hc x (List.mem_of_getElem? hx));have hr:x.row=[.str x.nm,.int .u8 x.dir]:=rfl;rw[hr]at hcx
   (repeat first|simp only[ww]|(apply xa;simp+decide only[go_sem,c1,hlt,hx,hr,hw,hcx,List.length_map];rfl;kernel_rfl))
   refine a1p (i+1) ?_ (by omega) (by omega)
   (simp+decide only[go_sem,a02,a00,b87]<;>rfl)
  ·obtain rfl:i=l.length:=by omega
   have c1:¬(l.length:Int)<l.length:=by omega
   (repeat first|simp only[ww]|(apply xa;simp+decide only[go_sem,c1];rfl;kernel_rfl))
   (apply fqb;simp+decide only[go_sem]<;>rfl)
theorem c0h(cp:Option Nat)(l:List Sgn)(hl:l.length<1000000)(hc:∀v∈l,b4r v.nm) :
 sem L.env Mf 37 [.islice (l.map Sgn.row) cp,b87] []=some (.bool false,[]):=by
 have h:=λH=>a06 (E:=L.env) (draw:=false) (call:=sem L.env Mf) (g:=88) (fs:=[]) (cs:=[]) (ar:=[.islice (l.map Sgn.row) cp,b87]) (H:=H) (by kernel_rfl) (by kernel_rfl) rfl (by rfl) (c2k cp l hl hc) rfl;have c1:¬(0:Int)≤ -1:=by omega
 unfold b87 at h⊢
 (refine sv Tryz.f37 ?_;simp only[Tryz.f37,gS])
 (repeat first|simp only[ww]|(apply xa;simp+decide only[go_sem,h,c1];rfl;kernel_rfl))
 (apply fqb;simp+decide only[go_sem]<;>rfl)
theorem c0i{d:Bool}{H:a03}{b:Nat}(l:List Sgn)(hl:l.length<1000000)(hc:∀v∈l,b4r v.nm)(hb:a01 H b=some (.row 2 (l.map Sgn.row))) :
 a0m L.env d (sem L.env Mf) (.func (.func 37) [] []) [.slice b 0 l.length none,b87] H=some (.bool false,H,List.range H.length):=by
 refine a47 (args:=[.slice b 0 l.length none,b87]) (args':=[.islice (l.map Sgn.row) none,b87]) (by kernel_rfl) (by kernel_rfl) rfl ?_ (v:=.bool false) (H1:=[]) (c0h none l hl hc) rfl rfl;have h2:=a0s (m:=0) (d:=a2i (a01 H) 0 11) (a2k l);have h4:((l.map Sgn.row).drop 0).take l.length=l.map Sgn.row:=by rw[List.drop_zero];exact List.take_of_length_le (by simp)
 unfold b87;simp+decide only[a14,a56,a45,hb,a5y,a07,h4,h2,List.length_map,Nat.zero_add,Nat.le_refl,decide_true,decide_false,cond_true,cond_false];rfl
theorem c4n(n:Nat)(rows:List (List AV))(hf:FlatR rows):sem L.env Mf 39 [.slice 0 0 n none] [some (.row 2 rows)]=some (.slice 0 0 n (some n),[some (.row 2 rows)]):=by
 have h1:=λπ=>a08 π hf
 (refine sv Tryz.f39 ?_;simp only[Tryz.f39,gS])
 (repeat first|simp only[ww]|(apply xa;simp+decide only[go_sem];rfl;kernel_rfl))
 (apply fqb;simp+decide only[go_sem,h1]<;>rfl)
theorem b9m{d:Bool}{H:a03}{b n:Nat}{rows:List (List AV)}(hf:FlatR rows)(hb:a01 H b=some (.row 2 rows)):a0m L.env d (sem L.env Mf) (.func (.func 39) [] []) [.slice b 0 n none] H=some (.slice b 0 n (some n),H,[b]):=by have h:=a6v (E:=L.env) (draw:=d) (call:=sem L.env Mf) (g:=39) (fs:=[]) (cs:=[]) (ar:=[.slice b 0 n none]) (H:=H) (b:=b) (by kernel_rfl) (by kernel_rfl) rfl hb (a2d hf) (FlatO.row hf) rfl (args':=[AV.slice 0 0 n none]) (by simp only[List.nil_append,List.append_nil,List.map_cons,List.map_nil,a43]) (c4n n rows hf) (FlatO.row hf) (a5p b 0 _ n _);rw[a9l hb]at h;exact h
/- a set of names -/
def stO(l:List (List UInt8)):AObj:=.map (l.map .str) (List.replicate l.length (.bool true)) (List.range l.length) l.length
theorem b6s(s:List UInt8):∀(l:List (List UInt8)) (b:Nat),s∉l→a17 (aeq L.env 6 9) (.str s) (l.map .str) b=some none
 | [],b,_=>rfl
 |t::l,b,h=>by
  simp only[List.mem_cons,not_or]at h;have hne:(s==t)=false:=by rw[beq_eq_false_iff_ne];exact h.1
  simp only[List.map_cons,a17,eqS,hne,cond_false];exact b6s s l (b+1) h.2
theorem c8n{h:FHeap}{b:Nat}{l:List (List UInt8)}{s:List UInt8}(hb:h b=some (stO l))(hs:s∉l):a4l L.env h 122 (.map b) (.str s) false=some (.bool false):=by
 have hu:L.env.und 122=some (.map 9 4):=by kernel_rfl
 have hk:(b5p L.env 9&&b2l L.env 9 (.str s))=true:=by kernel_rfl
 have hz:L.env.zero 4=some [.bool false]:=by kernel_rfl
 have hd0:(L.env.und 4).map a1f=some false:=by kernel_rfl
 obtain⟨d,hd,hd2⟩:=a04 hd0;have hm:a9a h (.map b)=some (l.map .str,List.replicate l.length (.bool true)):=by simp only[a9a,hb,stO]
 unfold a4l;simp only[hu,hk,cond_true,hz,hd,hm,b6s s l 0 hs,hd2,cond_false]
theorem c7a{h:FHeap}{b:Nat}{l:List (List UInt8)}{s:List UInt8}(hb:h b=some (stO l))(hs:s∉l):a19 L.env h 122 (.map b) (.str s) (.bool true)=some (.set b (stO (l++[s]))):=by
 have hu:L.env.und 122=some (.map 9 4):=by kernel_rfl
 have hk:(b5p L.env 9&&b2l L.env 9 (.str s))=true:=by kernel_rfl
 have hp:a6z L.env h 122 (.map b) (.str s)=some (b,l.map .str,List.replicate l.length (.bool true),List.range l.length,l.length,none):=by unfold a6z;simp only[hu,hk,cond_true,hb,stO,b6s s l 0 hs]
 unfold a19;rw[hp];simp only[stO,List.map_append,List.map_cons,List.map_nil,List.length_append,List.length_cons,List.length_nil,List.range_succ,List.replicate_succ']
theorem a73(l:List (List UInt8)):a15 (some (stO l))=[]:=by
 simp only[stO,a15];have h1:∀l:List (List UInt8),a0i (l.map AV.str)=[]:=by intro l;induction l with|nil=>rfl|cons a l ih=>simp[a0i,refs,ih]
 have h2:∀n,a0i (List.replicate n (AV.bool true))=[]:=by intro n;induction n with|zero=>rfl|succ n ih=>simp[List.replicate_succ,a0i,refs,ih]
 rw[h1,h2];rfl
theorem b00(π:Nat→Option Nat)(l:List (List UInt8)):a0j π (stO l)=stO l:=by have h:=a73 l;simp only[stO,a15,List.append_eq_nil_iff]at h;simp only[stO,a0j,a32 π h.1,a32 π h.2]
structure Tio(c:Cir)(k m:Nat):Prop where
 ins:kinds c.nodes 0=List.range k
 k1:1≤k
 k4:k≤4
 out:c.outs.length=m
 m1:1≤m
 m4:m≤4
def sgI(j:Nat):Sgn:=⟨a1n j,0⟩
def sgO(j:Nat):Sgn:=⟨oS j,1⟩
def sgs(k m:Nat):List Sgn:=(List.range k).map sgI++(List.range m).map sgO
theorem a3b(k m:Nat):(sgs k m).length=k+m:=by simp[sgs]
theorem d7d(k:Nat):sgs k 0=(List.range k).map sgI:=by simp[sgs]
theorem d2k(k j:Nat):sgs k (j+1)=sgs k j++[sgO j]:=by simp[sgs,List.range_succ]
def nms(k m:Nat):List (List UInt8):=(sgs k m).map Sgn.nm
theorem d7s(k j:Nat):nms k (j+1)=nms k j++[oS j]:=by simp[nms,d2k,sgO]
theorem d3f(i:Nat):nms (i+1) 0=nms i 0++[a1n i]:=by simp[nms,sgs,sgI,List.range_succ]
theorem d2l(i:Nat):sgs (i+1) 0=sgs i 0++[sgI i]:=by simp[sgs,List.range_succ]
theorem c50{i:Nat}(hi:i<14):a1n i∉nms i 0:=by unfold nms;rw[d7d,List.map_map];intro h;obtain⟨j,hj,e⟩:=List.mem_map.1 h;have hj:=List.mem_range.1 hj;have:=b5h (i:=j) (j:=i) (by omega) hi e;omega
theorem d3c{i j:Nat}(hi:i<14)(hj:j<14)(h:oS i=oS j):i=j:=by unfold oS at h;simp only[List.cons.injEq,and_true,true_and]at h;have h1:=congrArg UInt8.toNat h;simp only[UInt8.toNat_ofNat']at h1;omega
theorem c1x{k j:Nat}(hj:j<14):oS j∉nms k j:=by
 unfold nms sgs;rw[List.map_append,List.map_map,List.map_map];intro h;rcases List.mem_append.1 h with h|h
 ·obtain⟨i,_,e⟩:=List.mem_map.1 h;have:a1n i=oS j:=e;unfold a1n oS at this;simp at this
 ·obtain⟨i,hi,e⟩:=List.mem_map.1 h;have hi:=List.mem_range.1 hi;have:=d3c (i:=i) (j:=j) (by omega) hj e;omega
theorem b86{k m:Nat}(hk:k≤4)(hm:m≤4):∀s∈sgs k m,b4r s.nm:=by
 intro s hs;unfold sgs at hs;rcases List.mem_append.1 hs with h|h
 ·obtain⟨i,hi,rfl⟩:=List.mem_map.1 h;exact c95 i (by have:=List.mem_range.1 hi;omega)
 ·obtain⟨i,hi,rfl⟩:=List.mem_map.1 h;exact c94 i (by have:=List.mem_range.1 hi;omega)
theorem d3d(j:Nat):([111]++[UInt8.ofNat (48+j)]:List UInt8)=oS j:=rfl
theorem c90(π:Nat→Option Nat)(l:List Sgn):(l.map Sgn.row).map (λr=>r.map (ren π))=l.map Sgn.row:=a08 π (a2k l)
theorem c5t(l:List Nat):FlatR (l.map u8R):=FlatR.map λ_=>rfl
theorem d30(l:List Nat):(l.map u8R).flatMap a0i=[]:=a0d (c5t l)
theorem d93(π:Nat→Option Nat)(l:List Nat):(l.map u8R).map (λr=>r.map (ren π))=l.map u8R:=a08 π (c5t l)
theorem d9u(l:List Nat):((l.map u8R).all λr=>decide (r.length=1))=true:=by rw[List.all_eq_true];intro r hr;obtain⟨x,_,rfl⟩:=List.mem_map.1 hr;rfl
theorem d8w(l:List Nat):((l.map u8R).all λr=>r.all AV.storable)=true:=by rw[List.all_eq_true];intro r hr;obtain⟨x,_,rfl⟩:=List.mem_map.1 hr;rfl
theorem d3s:sem L.env Mf 140 [.nilslice,.int .i64 0] []=some (.nilslice,[]):=by
 have w0:IntKind.i64.wrap ((0:Int)-0)=0:=by decide
 (refine sv Tryz.f140 ?_;simp only[Tryz.f140,gS])
 (repeat first|simp only[ww]|(apply xa;simp+decide only[go_sem,w0];rfl;kernel_rfl))
 (apply fqb;simp+decide only[go_sem]<;>rfl)
theorem d6y(k n:Nat)(h0:0<n)(hn:n≤100000):a1h L.env k 52 3 .nilslice (.int .i64 n)=some (.slice k 0 n none,.new (.row 1 (List.replicate n [.int .u8 0]))):=by
 obtain⟨m,rfl⟩:∃m,n=m+1:=⟨n-1,by omega⟩
 have hu:L.env.und 52=some (.slice 53):=by kernel_rfl
 have hxd:(L.env.und 3).any a1r=true:=by kernel_rfl
 obtain⟨dx,hx,hd⟩:∃dx,L.env.und 3=some dx∧a1r dx=true:=by
  cases h:L.env.und 3 with
  |none=>rw[h]at hxd;cases hxd
  |some dx=>rw[h]at hxd;exact⟨dx,rfl,hxd⟩
 have hz:L.env.zero 53=some [.int .u8 0]:=by kernel_rfl
 have hs:L.env.sz 53=1:=by kernel_rfl
 have hr:a1m L.env 53 (m+1)=true:=a5e (by omega) (by decide+kernel);unfold a1h;simp only[hu,hx,hd,hz,hs,Bool.true_and];have h1:decide (0≤((m+1:Nat):Int))=true:=decide_eq_true (by omega);have h2:(((m+1:Nat):Int)).toNat=m+1:=by omega
 have h3:Nat.blt 0 1=true:=rfl;simp only[h1,h2,h3,hr,cond_true]
theorem d3r(n:Nat)(h0:0<n)(hn:n≤100000):sem L.env Mf 140 [.nilslice,.int .i64 n] []=some (.slice 0 0 0 none,[some (.row 1 (List.replicate n [.int .u8 0]))]):=by
 have c1:¬(n:Int)<0:=by omega
 have c2:(0:Int)<n:=by omega
 have w0:IntKind.i64.wrap ((0:Int)-0)=0:=by decide
 have hw:IntKind.i64.wrap ((n:Int)-0)=n:=by rw[w64 (by omega) (by omega)];omega
 have hz:=λk=>d6y k n h0 hn;have ha:apT L.env 52 3=none:=by kernel_rfl
 have hs:∀hp,a4v L.env hp 52 .nilslice none (some (.int .i64 0)) none=some .nilslice:=λhp=>by kernel_rfl
 (refine sv Tryz.f140 ?_;simp only[Tryz.f140,gS])
 (repeat first|simp only[ww]|(apply xa;simp+decide only[go_sem,c1,c2,w0,hw,hz,ha,hs];rfl;kernel_rfl))
 (apply fqb;simp+decide only[go_sem]<;>rfl)
def slU(l:List Nat):AV:=slF none (l.map u8R)
theorem c1k{l:List Nat}(h:l≠[]):slU l = .islice (l.map u8R) none:=by
 cases l with
 |nil=>exact absurd rfl h
 |cons a r=>rfl
theorem c4l(l:List Nat):refs (slU l)=[]:=by cases l<;>rfl
theorem c08(H:a03):a0m L.env false (sem L.env Mf) (.func (.func 140) [] []) [.nilslice,.int .i64 0] H=some (.nilslice,H,[]):=a06 (by kernel_rfl) (by kernel_rfl) rfl rfl d3s rfl
theorem c2o(H:a03)(n:Nat)(h0:0<n)(hn:n≤100000):a0m L.env false (sem L.env Mf) (.func (.func 140) [] []) [.nilslice,.int .i64 n] H=some (.slice H.length 0 0 none,H++[some (.row 1 (List.replicate n [.int .u8 0]))],[]):=by
 have hc:=a3e (sem L.env Mf 140) [.nilslice,.int .i64 n] H (σ:=[]) rfl rfl rfl (args':=[.nilslice,.int .i64 n]) rfl (H0:=[]) rfl (d3r n h0 hn);have hf:FlatR (List.replicate n [AV.int .u8 0]):=λr hr=>by rw[(List.mem_replicate.1 hr).2];rfl
 refine c3d (by kernel_rfl) (by kernel_rfl) rfl (hc.trans ?_);have hr:=λπ=>a08 π hf;simp only[a5f,ren,a0z,List.length_nil,List.drop_zero,List.map_cons,List.map_nil,Option.map_some,a0j,hr];simp[Nat.blt];rfl
theorem c37(ca cb:Option (Option Nat))(a b:List Nat)(hl:a.length+b.length≤100000):sem L.env Mf 93 [.slice 0 0 2 (some 2)] [some (.row 1 [[sl ca (a.map u8R)],[sl cb (b.map u8R)]])]=some (slU (a++b),[some (.row 1 [[sl ca (a.map u8R)],[sl cb (b.map u8R)]])]):=by
 suffices hs:∃r:AV×a03,(r=(slU (a++b),[some (.row 1 [[sl ca (a.map u8R)],[sl cb (b.map u8R)]])]))∧sem L.env Mf 93 [.slice 0 0 2 (some 2)] [some (.row 1 [[sl ca (a.map u8R)],[sl cb (b.map u8R)]])]=some r by obtain⟨r,rfl,h3⟩:=hs;exact h3
 have w1:IntKind.i64.wrap ((0:Int)+(a.length:Int))=(a.length:Int):=by rw[w64 (by omega) (by omega)];omega
 have w2:IntKind.i64.wrap ((a.length:Int)+(b.length:Int))=((a.length+b.length:Nat):Int):=by rw[w64 (by omega) (by omega)];omega
 have c1:¬(a.length:Int)<0:=by omega
 have c2:¬((a.length+b.length:Nat):Int)<0:=by omega
 (refine svE Tryz.f93 ?_;simp only[Tryz.f93,gS])
 (repeat first|simp only[ww]|(apply xa;simp+decide only[go_sem];rfl;kernel_rfl))
 refine a9b kp93_0 (λq F H1=>∃(i x:Int),((i=0∧x=0∧q=2)∨(i=1∧x=a.length∧q=1)∨(i=2∧x=(a.length+b.length:Nat)∧q=0))∧F=[(0,.slice 0 0 2 (some 2)),(3,.int .i64 x),(9,.slice 0 0 2 (some 2)),(10,.int .i64 2),(11,.int .i64 i)]∧H1=[some (.row 1 [[sl ca (a.map u8R)],[sl cb (b.map u8R)]])]) 2 ?_ ?_
 ·refine⟨_,_,?_,0,0,.inl ⟨rfl,rfl,rfl⟩,rfl,rfl⟩
  (simp+decide only[go_sem,a02,a00]<;>rfl)<;>rfl
 ·rintro q F H1 ⟨i,x,h,rfl,rfl⟩
  rcases h with ⟨rfl,rfl,rfl⟩|⟨rfl,rfl,rfl⟩|⟨rfl,rfl,rfl⟩
  ·(repeat first|simp only[ww]|(apply xa;simp+decide only[go_sem,w1,c1,List.length_map];rfl;kernel_rfl))
   refine a40 1 (by omega) ⟨_,_,?_,1,a.length,.inr (.inl ⟨rfl,rfl,rfl⟩),rfl,rfl⟩
   (simp+decide only[go_sem,a02,a00]<;>rfl)<;>rfl
  ·(repeat first|simp only[ww]|(apply xa;simp+decide only[go_sem,w2,c2,List.length_map];rfl;kernel_rfl))
   refine a40 0 (by omega) ⟨_,_,?_,2,(a.length+b.length:Nat),.inr (.inr ⟨rfl,rfl,rfl⟩),rfl,rfl⟩
   (simp+decide only[go_sem,a02,a00]<;>rfl)<;>rfl
  ·rcases Nat.eq_zero_or_pos (a.length+b.length)with hz|hz
   ·have ha:a=[]:=List.eq_nil_of_length_eq_zero (by omega);have hb:b=[]:=List.eq_nil_of_length_eq_zero (by omega);subst ha hb;have hg:=λH=>c08 H;simp only[List.length_nil,Nat.add_zero,Int.natCast_zero]
    (repeat first|simp only[ww]|(apply xa;simp+decide only[go_sem,hg];rfl;kernel_rfl))
    refine a9b kp93_2 (λq F H1=>∃(i:Int),((i=0∧q=2)∨(i=1∧q=1)∨(i=2∧q=0))∧F=[(6,.nilslice),(25,.slice 0 0 2 (some 2)),(26,.int .i64 2),(27,.int .i64 i)]∧H1=[some (.row 1 [[sl ca (([]:List Nat).map u8R)],[sl cb (([]:List Nat).map u8R)]])]) 2 ?_ ?_
    ·refine⟨_,_,?_,0,.inl ⟨rfl,rfl⟩,rfl,rfl⟩
     (simp+decide only[go_sem,a02,a00]<;>rfl)<;>rfl
    ·rintro q F H1 ⟨i,h,rfl,rfl⟩
     rcases h with ⟨rfl,rfl⟩|⟨rfl,rfl⟩|⟨rfl,rfl⟩
     ·(repeat first|simp only[ww]|(apply xa;simp+decide only[go_sem,List.map_nil];rfl;kernel_rfl))
      refine a40 1 (by omega) ⟨_,_,?_,1,.inr (.inl ⟨rfl,rfl⟩),rfl,rfl⟩
      (simp+decide only[go_sem,a02,a00,List.map_nil]<;>rfl)<;>rfl
     ·(repeat first|simp only[ww]|(apply xa;simp+decide only[go_sem,List.map_nil];rfl;kernel_rfl))
      refine a40 0 (by omega) ⟨_,_,?_,2,.inr (.inr ⟨rfl,rfl⟩),rfl,rfl⟩
      (simp+decide only[go_sem,a02,a00,List.map_nil]<;>rfl)<;>rfl
     ·(repeat first|simp only[ww]|(apply xa;simp+decide only[go_sem];rfl;kernel_rfl))
      refine c9w (vs:=[.nilslice]) (r:=(_,_)) (by simp+decide only[go_sem]) ?_ rfl;simp+decide only[go_sem,a1e]<;>rfl
   ·have hg:=λH=>c2o H (a.length+b.length) hz hl;have hne:a++b≠[]:=by intro e;rw[List.append_eq_nil_iff]at e;rw[e.1,e.2]at hz;simp at hz
    generalize hR:List.replicate (a.length+b.length) [AV.int .u8 0]=R at hg;have hRl:R.length=a.length+b.length:=by rw[←hR];simp
    have hRf:FlatR R:=λr hr=>by rw[←hR]at hr;rw[(List.mem_replicate.1 hr).2];rfl
    have hr1:a.length≤1000000000:=by omega
    have hr2:a.length+b.length≤1000000000:=by omega
    have hn0:¬0=a.length+b.length:=by omega
    (repeat first|simp only[ww]|(apply xa;simp+decide only[go_sem,hg];rfl;kernel_rfl))
    refine a9b kp93_2 (λq F H1=>∃(i:Int) (n:Nat) (Q:List (List AV)),((i=0∧q=2∧n=0∧Q=R)∨(i=1∧q=1∧n=a.length∧Q=a.map u8R)∨(i=2∧q=0∧n=a.length+b.length∧Q=a.map u8R++b.map u8R))∧F=[(6,.slice 1 0 n none),(25,.slice 0 0 2 (some 2)),(26,.int .i64 2),(27,.int .i64 i)]∧H1=[some (.row 1 [[sl ca (a.map u8R)],[sl cb (b.map u8R)]]),some (.row 1 Q)]) 2 ?_ ?_
    ·refine⟨_,_,?_,0,0,R,.inl ⟨rfl,rfl,rfl,rfl⟩,rfl,rfl⟩
     (simp+decide only[go_sem,a02,a00,a0d hRf,a08 _ hRf]<;>rfl)<;>rfl
    ·rintro q F H1 ⟨i,n,Q,h,rfl,rfl⟩
     rcases h with ⟨rfl,rfl,rfl,rfl⟩|⟨rfl,rfl,rfl,rfl⟩|⟨rfl,rfl,rfl,rfl⟩
     ·(repeat first|simp only[ww]|(apply xa;simp+decide only[go_sem,d9u,d8w,hRl,hr1,hn0,Nat.zero_add,List.length_map,Nat.zero_le];rfl;kernel_rfl))
      refine a40 1 (by omega) ⟨_,_,?_,1,a.length,a.map u8R,.inr (.inl ⟨rfl,rfl,rfl,rfl⟩),rfl,rfl⟩
      (simp+decide only[go_sem,a02,a00,d30,d93]<;>rfl)<;>rfl
     ·(repeat first|simp only[ww]|(apply xa;simp+decide only[go_sem,d9u,d8w,hr2,List.length_map];rfl;kernel_rfl))
      refine a40 0 (by omega) ⟨_,_,?_,2,a.length+b.length,a.map u8R++b.map u8R,.inr (.inr ⟨rfl,rfl,rfl,rfl⟩),rfl,rfl⟩
      (simp+decide only[go_sem,a02,a00,d30,d93,List.flatMap_append,List.map_append]<;>rfl)<;>rfl
     ·(repeat first|simp only[ww]|(apply xa;simp+decide only[go_sem];rfl;kernel_rfl))
      refine c9w (vs:=[.slice 1 0 (a.length+b.length) none]) (r:=(_,_)) (by simp+decide only[go_sem]) ?_ rfl;rw[c1k hne];have ht:List.take (a.length+b.length) (a.map u8R++b.map u8R)=a.map u8R++b.map u8R:=List.take_of_length_le (by simp);have hfz:∀m d,a6u m d (a.map u8R++b.map u8R)=some (a.map u8R++b.map u8R):=λm d=>a0s m d ((c5t a).append (c5t b));have hln:a.length+b.length≤a.length+b.length:=Nat.le_refl _;simp+decide only[go_sem,a1e,ht,hfz,List.length_map,List.length_append,List.map_append]<;>rfl
set_option maxHeartbeats 200000000
/- a list that is filled from its first element on -/
def upT(f:Nat→List AV)(z:List AV)(n i:Nat):List (List AV):=(List.range n).map λj=>if j<i then f j else z
section
variable {f:Nat→List AV}{z:List AV}{n i:Nat}
theorem d71:upT f z n 0=List.replicate n z:=by unfold upT;rw[show(λj:Nat=>if j<0 then f j else z)=λ_=>z from by funext j;rw[if_neg (Nat.not_lt_zero j)],List.map_const',List.length_range]
theorem b6l:(upT f z n i).length=n:=by simp[upT]
theorem b6m{j:Nat}(hj:j<n):(upT f z n i)[j]?=some (if j<i then f j else z):=by unfold upT;rw[List.getElem?_map,List.getElem?_range hj];rfl
theorem d2d(hi:i<n):(upT f z n i)[i]?=some z:=by rw[b6m hi,if_neg (Nat.lt_irrefl i)]
theorem c8c(hi:i<n):(upT f z n i).set i (f i)=upT f z n (i+1):=by
 apply List.ext_getElem?;intro j;rw[List.getElem?_set];by_cases hj:j<n
 ·rw[b6m hj,b6m hj,b6l];by_cases h:i=j
  ·subst h;rw[if_pos rfl,if_pos hi,if_pos (by omega)]
  ·rw[if_neg h];by_cases h2:j<i
   ·rw[if_pos h2,if_pos (by omega)]
   ·rw[if_neg h2,if_neg (by omega)]
 ·have e:∀i,(upT f z n i)[j]?=none:=λi=>List.getElem?_eq_none (by rw[b6l];omega);rw[e,e,if_neg (by omega)]
theorem c8d:upT f z n n=(List.range n).map f:=by unfold upT;exact List.map_congr_left λj hj=>by rw[if_pos (List.mem_range.1 hj)]
theorem a9k(hz:a0i z=[])(hf:∀j,a0i (f j)=[]):FlatR (upT f z n i):=FlatR.map λj=>by split;exact hf j;exact hz
end
theorem b9u{α:Type}(l:List α)(d:α):(List.range l.length).map (λj=>l.getD j d)=l:=by
 apply List.ext_getElem?;intro j;rw[List.getElem?_map];by_cases h:j<l.length
 ·rw[List.getElem?_range h,z9e h];simp[List.getD_eq_getElem?_getD,z9e h]
 ·rw[List.getElem?_eq_none (by simpa using h),List.getElem?_eq_none (by simpa using h)];rfl
/- cells -/
def b17(z o v:Nat):Nat:=if v=0 then z else if v=1 then o else 88
def a5w(z o v:Nat):UInt8:=UInt8.ofNat (b17 z o v)
theorem b3a(f:Nat→Nat):∀(l:List Nat),a3y (l.map λv=>[.int .u8 (f v:Nat)])=some (l.map λv=>UInt8.ofNat (f v))
 | []=>rfl
 |v::l=>by simp only[List.map_cons,a3y,b3a f l,Int.toNat_natCast]
theorem c6e(r:Rep)(vs:List Nat)(z o:Nat)(hl:vs.length<1000000):sem L.env Mf 45 [sl r (vs.map u8R),.int .u8 z,.int .u8 o] []=some (.str (vs.map (a5w z o)),[]):=by
 obtain⟨f,hf⟩:∃f:Nat→List AV,f=λj=>[.int .u8 (b17 z o (vs.getD j 0):Nat)]:=⟨_,rfl⟩
 have hff:∀j,a0i (f j)=[]:=λj=>by rw[hf];rfl
 have hrm:vs.length≤1000000000:=by omega
 (refine sv Tryz.f45 ?_;simp only[Tryz.f45,gS])
 (repeat first|simp only[ww]|(apply xa;simp+decide only[go_sem,hrm,List.length_map];rfl;kernel_rfl))
 refine a0n (σ:=Nat) kp45_0 (λi=>[(1,.int .u8 z),(2,.int .u8 o),(7,.slice 0 0 vs.length (some vs.length)),(13,sl r (vs.map u8R)),(14,.int .i64 vs.length),(15,.int .i64 i)])
  (λi=>[some (.row 1 (upT f [.int .u8 0] vs.length i))]) (λi=>vs.length-i) (λi=>i≤vs.length) 0 ?_ (Nat.zero_le _) ?_
 ·rw[←d71 (f:=f)];have h1:=a0d (a9k (f:=f) (z:=[.int .u8 0]) (n:=vs.length) (i:=0) rfl hff);have h2:=λπ=>a08 π (a9k (f:=f) (z:=[.int .u8 0]) (n:=vs.length) (i:=0) rfl hff)
  (simp+decide only[go_sem,a02,a00,h1,h2]<;>rfl)<;>rfl
 ·intro i hi;by_cases hlt:i<vs.length
  ·obtain⟨v,hv⟩:∃v,vs[i]?=some v:=⟨_,z9e hlt⟩
   have c1:(i:Int)<vs.length:=by omega
   have hw:=wI1 (n:=i) (by omega);have h1:=a0d (a9k (f:=f) (z:=[.int .u8 0]) (n:=vs.length) (i:=i+1) rfl hff);have h2:=λπ=>a08 π (a9k (f:=f) (z:=[.int .u8 0]) (n:=vs.length) (i:=i+1) rfl hff);have hat:=d2d (f:=f) (z:=[.int .u8 0]) hlt;have hln:=b6l (f:=f) (z:=[.int .u8 0]) (n:=vs.length) (i:=i);have hset:=c8c (f:=f) (z:=[.int .u8 0]) hlt;have hfi:f i=[.int .u8 (b17 z o v:Nat)]:=by rw[hf];simp only[List.getD_eq_getElem?_getD,hv,Option.getD_some]
   rw[hfi]at hset;unfold b17 at hset;by_cases h0:v=0
   ·rw[if_pos h0]at hset;have e0:(v:Int)=0:=by omega
    (repeat first|simp only[ww]|(apply xa;simp+decide only[go_sem,c1,hlt,hv,hw,e0,hat,hln,hset,List.length_map];rfl;kernel_rfl))
    refine a1p (i+1) ?_ (by omega) (by omega)
    (simp+decide only[go_sem,a02,a00,h1,h2]<;>rfl)<;>rfl
   ·rw[if_neg h0]at hset;have e0:¬(v:Int)=0:=by omega
    by_cases h01:v=1
    ·rw[if_pos h01]at hset;have e1:(v:Int)=1:=by omega
     (repeat first|simp only[ww]|(apply xa;simp+decide only[go_sem,c1,hlt,hv,hw,e0,e1,hat,hln,hset,List.length_map];rfl;kernel_rfl))
     refine a1p (i+1) ?_ (by omega) (by omega)
     (simp+decide only[go_sem,a02,a00,h1,h2]<;>rfl)<;>rfl
    ·rw[if_neg h01]at hset;have e1:¬(v:Int)=1:=by omega
     rw[show((88:Nat):Int)=88 from rfl]at hset
     (repeat first|simp only[ww]|(apply xa;simp+decide only[go_sem,c1,hlt,hv,hw,e0,e1,hat,hln,hset,List.length_map];rfl;kernel_rfl))
     refine a1p (i+1) ?_ (by omega) (by omega)
     (simp+decide only[go_sem,a02,a00,h1,h2]<;>rfl)<;>rfl
  ·obtain rfl:i=vs.length:=by omega
   have c1:¬(vs.length:Int)<vs.length:=by omega
   have he:upT f [.int .u8 0] vs.length vs.length=vs.map λv=>[.int .u8 (b17 z o v:Nat)]:=by rw[c8d,hf];have:=congrArg (List.map λv=>[AV.int .u8 (b17 z o v:Nat)]) (b9u vs 0);rw[List.map_map]at this;exact this
   have hab:=b3a (b17 z o) vs;have hln:(vs.map λv=>[AV.int .u8 (b17 z o v:Nat)]).length=vs.length:=List.length_map ..;rw[he];have htk:(vs.map λv=>[AV.int .u8 (b17 z o v:Nat)]).take vs.length=vs.map λv=>[AV.int .u8 (b17 z o v:Nat)]:=List.take_of_length_le (by simp);generalize(vs.map λv=>[AV.int .u8 (b17 z o v:Nat)])=R0 at hab hln htk
   (repeat first|simp only[ww]|(apply xa;simp+decide only[go_sem,c1,hab,hln,htk];rfl;kernel_rfl))
   (apply fqb;simp+decide only[go_sem]<;>rfl)
theorem b32{d:Bool}(H:a03)(r:Rep)(vs:List Nat)(z o:Nat)(zi oi:Int)(hz:zi=z)(ho:oi=o)(hl:vs.length<1000000):a0m L.env d (sem L.env Mf) (.func (.func 45) [] []) [sl r (vs.map u8R),.int .u8 zi,.int .u8 oi] H=some (.str (vs.map (a5w z o)),H,[]):=by subst hz;subst ho;exact a06 (by kernel_rfl) (by kernel_rfl) rfl (by simp only[List.nil_append,List.append_nil,a0h,a1b,c4s,a26]) (c6e r vs z o hl) rfl
/- values that may be given -/
def a4n:AV:=.func (.func 94) [] []
theorem c5x(v:Nat)(hv:v≤3):sem L.env Mf 94 [.int .u8 v] []=some (.bool false,[]):=by
 have c1:¬(3:Int)<v:=by omega
 (refine sv Tryz.f94 ?_;simp only[Tryz.f94,gS])
 (repeat first|simp only[ww]|(apply xa;simp+decide only[go_sem,c1];rfl;kernel_rfl))
 (apply fqb;simp+decide only[go_sem]<;>rfl)
theorem b2u{d:Bool}(H:a03)(v:Nat)(hv:v≤3):a0m L.env d (sem L.env Mf) (.func (.func 94) [] []) [.int .u8 v] H=some (.bool false,H,[]):=a06 (by kernel_rfl) (by kernel_rfl) rfl rfl (c5x v hv) rfl
theorem b7g(r:Rep)(l:List Nat)(hl:l.length<1000000)(hc:∀v∈l,v≤3) :
 sem L.env Mf 139 [sl r (l.map u8R),a4n] []=some (.int .i64 (-1),[]):=by
 unfold a4n
 (refine sv Tryz.f139 ?_;simp only[Tryz.f139,gS])
 (repeat first|simp only[ww]|(apply xa;simp+decide only[go_sem];rfl;kernel_rfl))
 refine a0n (σ:=Nat) kp139_0 (λi=>[(0,sl r (l.map u8R)),(1,a4n),(7,.int .i64 l.length),(8,.int .i64 i)])
  (λ_=>[]) (λi=>l.length-i) (λi=>i≤l.length) 0 ?_ (Nat.zero_le _) ?_
 ·unfold a4n
  (simp+decide only[go_sem,a02,a00]<;>rfl)
 ·intro i hi;unfold a4n;by_cases hlt:i<l.length
  ·obtain⟨x,hx⟩:∃x,l[i]?=some x:=⟨_,z9e hlt⟩
   have c1:(i:Int)<l.length:=by omega
   have hw:=wI1 (n:=i) (by omega);have hcx:=λH=>b2u (d:=false) H x (hc x (List.mem_of_getElem? hx))
   (repeat first|simp only[ww]|(apply xa;simp+decide only[go_sem,c1,hlt,hx,hw,hcx];rfl;kernel_rfl))
   refine a1p (i+1) ?_ (by omega) (by omega)
   (simp+decide only[go_sem,a02,a00,a4n]<;>rfl)
  ·obtain rfl:i=l.length:=by omega
   have c1:¬(l.length:Int)<l.length:=by omega
   (repeat first|simp only[ww]|(apply xa;simp+decide only[go_sem,c1];rfl;kernel_rfl))
   (apply fqb;simp+decide only[go_sem]<;>rfl)
theorem c36(r:Rep)(l:List Nat)(hl:l.length<1000000)(hc:∀v∈l,v≤3) :
 sem L.env Mf 92 [sl r (l.map u8R),a4n] []=some (.bool false,[]):=by
 have h:=λH=>a06 (E:=L.env) (draw:=false) (call:=sem L.env Mf) (g:=139) (fs:=[]) (cs:=[]) (ar:=[sl r (l.map u8R),a4n]) (H:=H) (by kernel_rfl) (by kernel_rfl) rfl (by simp only[List.nil_append,List.append_nil,a0h,a1b];rfl) (b7g r l hl hc) rfl;have c1:¬(0:Int)≤ -1:=by omega
 unfold a4n at h⊢
 (refine sv Tryz.f92 ?_;simp only[Tryz.f92,gS])
 (repeat first|simp only[ww]|(apply xa;simp+decide only[go_sem,h,c1];rfl;kernel_rfl))
 (apply fqb;simp+decide only[go_sem]<;>rfl)
theorem b7o{d:Bool}(H:a03)(r:Rep)(l:List Nat)(hl:l.length<1000000)(hc:∀v∈l,v≤3):a0m L.env d (sem L.env Mf) (.func (.func 92) [] []) [sl r (l.map u8R),a4n] H=some (.bool false,H,[]):=a06 (by kernel_rfl) (by kernel_rfl) rfl (by simp only[List.nil_append,List.append_nil,a0h,a1b];rfl) (c36 r l hl hc) rfl
def vlR(x:Rep×List Nat):List AV:=[sl x.1 (x.2.map u8R)]
theorem b14{d:Bool}(ca cb:Rep)(a b:List Nat)(hl:a.length+b.length≤100000):a0m L.env d (sem L.env Mf) (.func (.func 93) [] []) [.slice 0 0 2 (some 2)] [some (.row 1 [[sl ca (a.map u8R)],[sl cb (b.map u8R)]])]=some (slU (a++b),[some (.row 1 [[sl ca (a.map u8R)],[sl cb (b.map u8R)]])],[0]):=by have hf:FlatR [[sl ca (a.map u8R)],[sl cb (b.map u8R)]]:=FlatR.cons (by simp only[a0h,a1b,a26,List.append_nil]) (FlatR.cons (by simp only[a0h,a1b,a26,List.append_nil]) FlatR.nil);exact a4k (E:=L.env) (draw:=d) (call:=sem L.env Mf) (g:=93) (fs:=[]) (cs:=[]) (ar:=[.slice 0 0 2 (some 2)]) (H:=[some (.row 1 [[sl ca (a.map u8R)],[sl cb (b.map u8R)]])]) (b:=0) (by kernel_rfl) (by kernel_rfl) rfl rfl (a2d hf) (FlatO.row hf) rfl (args':=[.slice 0 0 2 (some 2)]) (by simp only[List.nil_append,List.append_nil,List.map_cons,List.map_nil,a43]) (c37 ca cb a b hl) (c4l _)
theorem c4g(c:Cir)(hc:c.wf){k m:Nat}(ht:Tio c k m)(ra rb:Rep)(A B:List (Rep×List Nat))(hAl:A.length≤1000)(hAB:A.length=B.length)(hA:∀a∈A,a.2.length=k∧∀v∈a.2,v≤3)(hB:∀a∈B,a.2.length=m∧∀v∈a.2,v≤3) :
 sem L.env Mf 44 [.agg c.enc,sl ra (A.map vlR),sl rb (B.map vlR)] []=some (.int .i64 0,[]):=by
 obtain⟨t1,t2,t3,t4,t5,t6⟩:=ht;have hn:=hc.len;have hin:=λ(d:Bool) (H:a03)=>a4i (d:=d) H c (by omega);obtain⟨r0,e0⟩:=a8g (kinds c.nodes 0);rw[e0,t1]at hin;simp only[Cir.enc]at hin⊢;have c1:¬(1024:Int)<A.length:=by omega
 have c2:B.length=A.length:=hAB.symm;have hCf:∀π:Nat→Option Nat,a0j π (.row 4 [[sl c.nc (c.nodes.map Nd.enc),sl c.mc (c.names.map a39),.nilslice,sl c.oc (c.outs.map a11)]]) = .row 4 [[sl c.nc (c.nodes.map Nd.enc),sl c.mc (c.names.map a39),.nilslice,sl c.oc (c.outs.map a11)]]:=λπ=>by simp+decide only[go_sem]
 (refine sv Tryz.f44 ?_;simp only[Tryz.f44,gS])
 (repeat first|simp only[ww]|(apply xa;simp+decide only[go_sem,hin,c1,c2,List.length_map,List.length_range];rfl;kernel_rfl))
 refine a0n (σ:=Nat) kp44_1 (λi=>[(1,sl ra (A.map vlR)),(2,sl rb (B.map vlR)),(3,.ptr 0 0 0),(7,.int .i64 k),(24,.int .i64 A.length),(25,.int .i64 i)])
  (λi=>[some (.row 4 [[sl c.nc (c.nodes.map Nd.enc),sl c.mc (c.names.map a39),.nilslice,sl c.oc (c.outs.map a11)]])]) (λi=>A.length-i) (λi=>i≤A.length) 0 ?_ (Nat.zero_le _) ?_
 ·(simp+decide only[go_sem,a02,a00]<;>rfl)<;>rfl
 ·intro i hi;by_cases hlt:i<A.length
  ·have d1:(i:Int)<A.length:=by omega
   have hwi:=wI1 (n:=i) (by omega);have hlt2:i<B.length:=by omega
   obtain⟨a,ha⟩:∃a,A[i]?=some a:=⟨_,z9e hlt⟩
   obtain⟨b,hb⟩:∃b,B[i]?=some b:=⟨_,z9e hlt2⟩
   obtain⟨a1,a2⟩:=hA a (List.mem_of_getElem? ha);obtain⟨b1,b2⟩:=hB b (List.mem_of_getElem? hb);have har:vlR a=[sl a.1 (a.2.map u8R)]:=rfl;have hbr:vlR b=[sl b.1 (b.2.map u8R)]:=rfl
   (repeat first|simp only[ww]|(apply xa;simp+decide only[go_sem,d1,hlt,hlt2,ha,hb,har,hbr,a1,b1,t4,hwi,List.length_map];rfl;kernel_rfl))
   refine a1p (i+1) ?_ (by omega) (by omega)
   (simp+decide only[go_sem,a02,a00]<;>rfl)<;>rfl
  ·obtain rfl:i=A.length:=by omega
   have d1:¬(A.length:Int)<A.length:=by omega
   (repeat first|simp only[ww]|(apply xa;simp+decide only[go_sem,d1,List.length_map];rfl;kernel_rfl))
   refine a0n (σ:=Nat) kp44_3 (λi=>[(1,sl ra (A.map vlR)),(2,sl rb (B.map vlR)),(48,.int .i64 A.length),(49,.int .i64 i)])
    (λi=>[]) (λi=>A.length-i) (λi=>i≤A.length) 0 ?_ (Nat.zero_le _) ?_
   ·(simp+decide only[go_sem,a02,a00]<;>rfl)<;>rfl
   ·intro i hi;by_cases hlt:i<A.length
    ·have d1:(i:Int)<A.length:=by omega
     have hwi:=wI1 (n:=i) (by omega);have hlt2:i<B.length:=by omega
     obtain⟨a,ha⟩:∃a,A[i]?=some a:=⟨_,z9e hlt⟩
     obtain⟨b,hb⟩:∃b,B[i]?=some b:=⟨_,z9e hlt2⟩
     obtain⟨a1,a2⟩:=hA a (List.mem_of_getElem? ha);obtain⟨b1,b2⟩:=hB b (List.mem_of_getElem? hb);have har:vlR a=[sl a.1 (a.2.map u8R)]:=rfl;have hbr:vlR b=[sl b.1 (b.2.map u8R)]:=rfl;have hco:=λ(d:Bool)=>b14 (d:=d) a.1 b.1 a.2 b.2 (by omega);have hne:a.2++b.2≠[]:=by intro e;have h2:=(List.append_eq_nil_iff.1 e).1;rw[h2,List.length_nil]at a1;omega
     rw[c1k hne]at hco;have hcf:=λ(d:Bool) (H:a03)=>b7o (d:=d) H (some none) (a.2++b.2) (by rw[List.length_append];omega) (λv hv=>by rcases List.mem_append.1 hv with h|h;exact a2 v h;exact b2 v h);simp only[a24,a4n,List.map_append]at hcf
     (repeat first|simp only[ww]|(apply xa;simp+decide only[go_sem,d1,hlt,hlt2,ha,hb,har,hbr,hco,hcf,hwi,List.length_map];rfl;kernel_rfl))
     refine a1p (i+1) ?_ (by omega) (by omega)
     (simp+decide only[go_sem,a02,a00]<;>rfl)<;>rfl
    ·obtain rfl:i=A.length:=by omega
     have d1:¬(A.length:Int)<A.length:=by omega
     (repeat first|simp only[ww]|(apply xa;simp+decide only[go_sem,d1,List.length_map];rfl;kernel_rfl))
     (apply fqb;simp+decide only[go_sem]<;>rfl)
theorem b9j{d:Bool}{H:a03}(c:Cir)(hc:c.wf){k m:Nat}(ht:Tio c k m){ra rb:Rep}{A B:List (Rep×List Nat)}(hAl:A.length≤1000)(hAB:A.length=B.length)(hA:∀a∈A,a.2.length=k∧∀v∈a.2,v≤3)(hB:∀a∈B,a.2.length=m∧∀v∈a.2,v≤3){V W:AV}
 (hV:a1u 0 false (a2i (a01 H) 0 12) V=some (sl ra (A.map vlR)))(hW:a1u 0 false (a2i (a01 H) 0 12) W=some (sl rb (B.map vlR))) :
 a0m L.env d (sem L.env Mf) (.func (.func 44) [] []) [.agg c.enc,V,W] H=some (.int .i64 0,H,List.range H.length):=
 a47 (args:=[.agg c.enc,V,W]) (args':=[.agg c.enc,sl ra (A.map vlR),sl rb (B.map vlR)]) (by kernel_rfl) (by kernel_rfl) rfl (by rw[a14,a29 _ _ _ (.agg c.enc) (by rw[a1o];exact a4r c),a14,hV,a14,hW];rfl) (c4g c hc ht ra rb A B hAl hAB hA hB) rfl rfl
def tmR:List AV:=[.str [116],.int .i64 100,.int .i64 0,.int .i64 30,.int .i64 60,.int .i64 90]
def vcR(s:List UInt8):List AV:=[.int .i64 0,.str s,.int .i64 1]
def b6j(vs:List (List UInt8)):AV:=match vs with|[]=>.nilslice|v::r=>.islice ((v::r).map vcR) (some (r.length+1))
def b6g(sg:List Sgn)(vs:List (List UInt8)):List AV:=[.islice (sg.map Sgn.row) (some sg.length),.islice [tmR] (some 1),b6j vs]
def cyc(a b:List Nat):List UInt8:=a.map (a5w 48 49)++b.map (a5w 76 72)
def a60(A B:List (Rep×List Nat)):List (List UInt8):=List.zipWith (λa b=>cyc a.2 b.2) A B
theorem b4c{A B:List (Rep×List Nat)}{i:Nat}{a b:Rep×List Nat}(ha:A[i]?=some a)(hb:B[i]?=some b):(a60 A B)[i]?=some (cyc a.2 b.2):=by unfold a60;rw[List.getElem?_zipWith,ha,hb]
theorem b92{A B:List (Rep×List Nat)}(h:A.length=B.length):(a60 A B).length=A.length:=by unfold a60;rw[List.length_zipWith];omega
theorem b48(l:List (List UInt8)):FlatR (l.map vcR):=FlatR.map λ_=>rfl
theorem a85(l:List (List UInt8)):refs (b6j l)=[]:=by cases l<;>rfl
theorem b5c(sg:List Sgn)(vs:List (List UInt8)):a0i (b6g sg vs)=[]:=by simp only[b6g,a0h,a85,a77,a26,List.append_nil]
theorem c1c:sem L.env Mf 46 [.nilslice] []=some (.nilslice,[]):=by
 (refine sv Tryz.f46 ?_;simp only[Tryz.f46,gS])
 (repeat first|simp only[ww]|(apply xa;simp+decide only[go_sem];rfl;kernel_rfl))
 (apply fqb;simp+decide only[go_sem]<;>rfl)
theorem c49(n:Nat)(rows:List (List AV))(hf:FlatR rows):sem L.env Mf 46 [.slice 0 0 n none] [some (.row 3 rows)]=some (.slice 0 0 n (some n),[some (.row 3 rows)]):=by
 have h1:=λπ=>a08 π hf
 (refine sv Tryz.f46 ?_;simp only[Tryz.f46,gS])
 (repeat first|simp only[ww]|(apply xa;simp+decide only[go_sem];rfl;kernel_rfl))
 (apply fqb;simp+decide only[go_sem,h1]<;>rfl)
theorem b9h{d:Bool}{H:a03}{b n:Nat}{rows:List (List AV)}(hf:FlatR rows)(hb:a01 H b=some (.row 3 rows)):a0m L.env d (sem L.env Mf) (.func (.func 46) [] []) [.slice b 0 n none] H=some (.slice b 0 n (some n),H,[b]):=by have h:=a6v (E:=L.env) (draw:=d) (call:=sem L.env Mf) (g:=46) (fs:=[]) (cs:=[]) (ar:=[.slice b 0 n none]) (H:=H) (b:=b) (by kernel_rfl) (by kernel_rfl) rfl hb (a2d hf) (FlatO.row hf) rfl (args':=[AV.slice 0 0 n none]) (by simp only[List.nil_append,List.append_nil,List.map_cons,List.map_nil,a43]) (c49 n rows hf) (FlatO.row hf) (a5p b 0 _ n _);rw[a9l hb]at h;exact h
theorem b6k{d:Bool}(H:a03):a0m L.env d (sem L.env Mf) (.func (.func 46) [] []) [.nilslice] H=some (.nilslice,H,[]):=a06 (by kernel_rfl) (by kernel_rfl) rfl rfl c1c rfl
end Go.UInst
