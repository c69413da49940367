/- AxPan: code that ends in a panic. -/
import Derived.Test.YtmbmjfjagololaaGreatDoorAxD
import Derived.Lib.AppendStr
set_option linter.unusedSimpArgs false
set_option linter.unusedVariables false
namespace Go.Ax
abbrev e2j(p:Value):Ending:=.panicked [{ v:=p,recovered:=false }]
def a7g(H:a08):a08:=List.replicate H.length none
def a96(σ:List Nat):Nat→a08→a08
 |_,[]=>[]
 |b,o::r=>(bif a1i σ b then none else o)::a96 σ (b+1) r
theorem b8v(σ:List Nat):∀(b:Nat) (H:a08) (i:Nat),(a96 σ b H)[i]?=(H[i]?).map λo=>bif a1i σ (b+i)then none else o
 |b,[],i=>by simp[a96]
 |b,o::r,0=>by simp[a96]
 |b,o::r,i+1=>by simp only[a96,e51];rw[b8v σ (b+1) r i,show b+1+i=b+(i+1) by omega]
theorem a7v(σ:List Nat):∀(b:Nat) (H:a08),(a96 σ b H).length=H.length
 |b,[]=>by simp[a96]
 |b,o::r=>by simp[a96,a7v σ (b+1) r]
theorem a8m(H:a08)(b:Nat):a03 (a7g H) b=none:=by unfold a03 a7g;rw[List.getElem?_replicate];split<;>rfl
def PanF(E:Env)(g:FuncId)(args:List AV)(H:a08)(p:Value):Prop:=
 ∀(I K:Nat→Prop) (ρ:PMap) (w:World) (ah:List Value),HRel E.G I K ρ (a03 H) w→NRel ρ H.length→VRels I w ρ args ah→
  XOf E g ah w λen w'=>en=e2j p∧∃I' ρ',Ret E I K ρ H.length w I' ρ' (a7g H) w'
theorem d2x{E:Env}{I K:Nat→Prop}{ρ:PMap}{w:World}{g:FuncId}{args:List AV}{ah:List Value}{H:a08}{σ:List Nat}{p:Value}
 (hc:(a25 σ&&σ.all (λb=>Nat.blt b H.length))=true)(h:PanF E g (args.map (ren (a2w σ))) (a0q H σ (a2w σ)) p)(r:HRel E.G I K ρ (a03 H) w)(hn:NRel ρ H.length)(ha:VRels I w ρ args ah) :
 XOf E g ah w λen w'=>en=e2j p∧∃I' ρ',Ret E I K ρ H.length w I' ρ' (a96 σ 0 H) w':=by
 simp only[b46,e3n,e3f]at hc;obtain⟨dl,aq⟩:=hc;have dl:=a54 dl;have h':=h I (a9g K ρ (a03 H) σ) (λj=>(σ[j]?).bind ρ) w ah (b8n r dl)
  (by intro j hj;simp only[a0q,b41]at hj;simp[e52 hj])
  (by rw[←a5w];exact VRels.ren (λb j m hj hb=>by have:=a2t hj;simp only[this,e5u,hb]) args ha)
 refine XOf.mono h' ?_
 rintro en w' ⟨rfl,I1,ρ1,nK⟩
 have aB:Ret E I (a9g K ρ (a03 H) σ) (λj=>(σ[j]?).bind ρ) σ.length w I1 ρ1 (a7g (a0q H σ (a2w σ))) w':=by simpa[a0q]using nK
 have nj:(a7g (a0q H σ (a2w σ))).length=σ.length:=by simp[a7g,a0q]
 refine⟨rfl,I1,ρ,aB.imm,λ_ _=>rfl,aB.ext.keepLess (λc hc=>.inl hc),?_,?_,?_⟩
 ·refine b2k (n:=H.length) r dl aB (λ_ _ h=>h) ?_ (λ_ _ h=>.inl h) ?_
  ·intro j b m hj hm;simp only[a1e]at hj;rw[cond_eq_ite]at hj;split at hj
   ·rename_i dq;have dq:j<σ.length:=by simpa[e3f]using dq
    have:=aB.map j dq;rw[hm,hj]at this;exact this.symm
   ·rename_i dq;have dq:σ.length≤j:=by simpa[e3f]using dq
    have:=aB.nrel j (by rw[nj];exact dq);rw[this]at hm;cases hm
  ·intro b o hb;left;simp only[a03]at hb;rw[b8v]at hb;simp only[e55]at hb;cases hx:H[b]? with
   |none=>rw[hx]at hb;simp at hb
   |some ob=>
    rw[hx]at hb;simp only[e2a,e63,cond_eq_ite]at hb;split at hb
    ·cases hb
    ·rename_i kM;refine⟨λhm=>kM (a55.2 hm),?_⟩;simp only[a03,hx,e63];exact hb
 ·rw[a7v];exact hn
 ·rw[a7v];exact e2c _
/-! ### statements -/
def PanG(x:Cx)(c:Code)(F:Frm)(H:a08)(p:Value)(F':Frm)(H':a08):Prop:=
 EnvOk x.E→DrOk x.E→(∀y∈x.M,b0f x.E y)→∀{fid:Nat} {ro:Option Nat} {e:Entry} {Q:Exit→Act→World→Prop},e.m=x.m0→a1p false c=true→RFOk x.E fid x.N x.keep ro x.cur c→
  (∀I ρ a w,Now x.E e x.N F' H' I ρ a w→Q (.panic [{ v:=p,recovered:=false }]) a w)→
  ∀{I:Nat→Prop} {ρ:PMap} {a:Act} {w:World},Now x.E e x.N F H I ρ a w→c.wpIn (wf ro) 0 x.E.P Q a w
abbrev PanC(x:Cx)(c:Code)(F:Frm)(H:a08)(p:Value)(H':a08):Prop:=PanG x c F H p [] H'
def PanOG(E:Env)(M:List Fact)(m N:Nat)(o:Oper)(F:Frm)(H:a08)(p:Value)(F':Frm)(H':a08):Prop:=
 EnvOk E→DrOk E→(∀y∈M,b0f E y)→∀{ro:Option Nat} {e:Entry} {K:Act→World→Prop} {Q:Exit→Act→World→Prop},e.m=m→
  (∀I ρ a w,Now E e N F' H' I ρ a w→Q (.panic [{ v:=p,recovered:=false }]) a w)→
  ∀{I:Nat→Prop} {ρ:PMap} {a:Act} {w:World},Now E e N F H I ρ a w→o.wpIn (wf ro) 0 E.P a w K Q
abbrev d8a(E:Env)(M:List Fact)(m N:Nat)(o:Oper)(F:Frm)(H:a08)(p:Value)(H':a08):Prop:=PanOG E M m N o F H p [] H'
theorem Now.noF{E:Env}{e:Entry}{N:Nat}{F:Frm}{H:a08}{I:Nat→Prop}{ρ:PMap}{a:Act}{w:World}(h:Now E e N F H I ρ a w):Now E e N [] H I ρ a w:={ h with frm:=⟨h.frm.1,λs=>by simp[a2h,VRel]⟩ }
section
variable {x:Cx}{F F1 F':Frm}{H H1 H':a08}{p:Value}{a b:Code}
theorem PanG.seqL(h:PanG x a F H p F' H'):PanG x (.seq a b) F H p F' H':=by intro ok al hM fid ro e Q he hd bv hQ I ρ dG w ae;simp only[a1p,b46]at hd;refine wpIn_seq (h ok al hM he hd.1 bv.seq1 ?_ ae);exact λI ρ a w hn=>hQ I ρ a w hn
theorem PanG.seqR(h1:Ev x a F H (.normal,F1,H1))(h2:PanG x b F1 H1 p F' H'):PanG x (.seq a b) F H p F' H':=by intro ok al hM fid ro e Q he hd bv hQ I ρ dG w ae;simp only[a1p,b46]at hd;obtain⟨n0,kv⟩:=h1;have hr:=kv n0 (e2c _) (AExit×Frm×a08) (λe F H=>some (e,F,H));rw[←he]at hr;refine wpIn_seq (a5j ok (sem_ok ok al hM) a hd.1 bv.seq1 ?_ ae hr);intro y F2 H2 I ρ dG w hn hk;cases hk;exact h2 ok al hM he hd.2 bv.seq2 hQ hn
theorem PanG.condT{c:Operand}(hc:opv x.E F c = .bool true)(h:PanG x a F H p F' H'):PanG x (.cond c a b) F H p F' H':=by intro ok al hM fid ro e Q he hd bv hQ I ρ dG w ae;simp only[a1p,b46]at hd;have hv:=a6h ae.rel ae.frm c;rw[hc]at hv;simp only[VRel]at hv;exact wpIn_cond_true hv (h ok al hM he hd.1 bv.cond1 hQ ae)
theorem PanG.block{id:Nat}(h:PanG { x with cur:=id } b F H p F' H'):PanG x (.block id b) F H p F' H':=by intro ok al hM fid ro e Q he hd bv hQ I ρ dG w ae;refine wpIn_block (h ok al hM he hd bv.block ?_ ae);exact λI ρ a w hn=>hQ I ρ a w hn
theorem PanG.loop(J:Nat→Frm→a08→Prop)(n0:Nat)(h0:∃F1 H1,gcD x.m0 (x.keep x.cur) F H=some (F1,H1)∧J n0 F1 H1)(hx:a8u b=none)
 (h:∀n F1 H1,J n F1 H1→PanG x b F1 H1 p F' H'∨∃F2 H2,Ev x b F1 H1 (.normal,F2,H2)∧∃F3 H3 n',gcD x.m0 (x.keep x.cur) F2 H2=some (F3,H3)∧n'<n∧J n' F3 H3):PanG x (.loop b) F H p F' H':=by
 intro ok al hM fid ro e Q he hd bv hQ I ρ dG w ae;unfold a1p at hd;rw[hx]at hd;have hd:a1p false b=true:=hd;refine b2n (n:=n0+1) (λn a w=>∃F H I ρ,Now x.E e x.N F H I ρ a w∧∃n' F1 H1,n'<n∧gcD x.m0 (x.keep x.cur) F H=some (F1,H1)∧J n' F1 H1) ?_ ?_ ?_
 ·rintro n dG w ⟨F,H,I,ρ,ae,n',F1,H1,hn,hg,hJ⟩
  have gC:=hg;unfold gcD at gC;dsimp only at gC;rw[cond_eq_ite]at gC;split at gC
  case isFalse=>cases gC
  rename_i hc;simp only[b46,e3n,e5e]at hc;cases gC;rw[←he]at hc hJ;obtain⟨ρ',iT⟩:=(ae.keep (x.keep x.cur)).gc (a54 hc.1.1) hc.1.2;rcases h _ _ _ hJ with hp|⟨F2,H2,kv,F3,H3,n'',o9,aq,hJ3⟩
  ·refine hp ok al hM he hd bv.loop ?_ iT;exact λI ρ a w hn=>hQ I ρ a w hn
  ·obtain⟨l0,kv⟩:=kv;have hr:=kv l0 (e2c _) (AExit×Frm×a08) (λe F H=>some (e,F,H));rw[←he]at hr;refine a5j ok (sem_ok ok al hM) b hd bv.loop ?_ iT hr;intro y F4 H4 I4 ρ4 ut w4 eN hk;cases hk;exact⟨_,_,_,_,eN,n'',F3,H3,by omega,o9,hJ3⟩
 ·rintro dG w ⟨_,_,_,_,_,n',_,_,hn,_⟩
  omega
 ·obtain⟨F1,H1,hg,hJ⟩:=h0;exact⟨_,_,_,_,ae,n0,F1,H1,by omega,hg,hJ⟩
end
section
variable {E:Env}{M:List Fact}{m N:Nat}{F F1 F':Frm}{H H1 H':a08}{p:Value}{o:Oper}
theorem PanOG.callS{f:Operand}{args:Array Operand}{fB:Array TypeId}(cV:o.op = .call ⟨.value f,args,fB⟩){g:FuncId}{fs cs:List AV}(hf:opv E F f = .func (.func g) fs cs)(hg:(E.fn g).isSome=true)(σ:List Nat)
 (hc:(a25 σ&&σ.all (λb=>Nat.blt b H.length))=true)
 (h:PanF E g ((fs++args.toList.map (opv E F)++cs).map (ren (a2w σ))) (a0q H σ (a2w σ)) p)(hH:a96 σ 0 H=H'):PanOG E M m N o F H p F H':=by
 intro ok al hM ro e K Q he hQ I ρ dG w ae;subst hH;have hv:=a6h ae.rel ae.frm f;rw[hf]at hv;simp only[VRel]at hv;obtain⟨di,aT,fJ,gJ,dp⟩:=hv;have aV:VRels I w ρ (fs++args.toList.map (opv E F)++cs) (di++args.map dG.eval++aT).toList:=by simp only[e6z,e5t];exact VRels.append (VRels.append gJ (a39 (a6h ae.rel ae.frm) args.toList)) dp
 refine a4t (by rw[cV];intro c hc;cases hc) ?_;rw[a5i cV fJ,a1u ok hg];have aX:=d2x hc h ae.rel ae.nrel aV;obtain⟨i,hi⟩:=e24.1 hg;rw[a3l (b20 ok hi)]at aX;have bU:(di++args.map dG.eval++aT).toList.toArray=di++args.map dG.eval++aT:=by apply e6c;simp
 rw[bU]at aX;refine a4b (Calls.mono aX ?_)
 rintro en w' ⟨rfl,I',ρ',aB⟩
 have hn:=ae.call (d:=none) (v:=.junk) (c:=.nilFunc) aB rfl (by simp[VRel]);exact hQ I' ρ' dG w' hn
theorem PanOG.call{f:Operand}{args:Array Operand}{fB:Array TypeId}(cV:o.op = .call ⟨.value f,args,fB⟩){g:FuncId}{fs cs:List AV}(hf:opv E F f = .func (.func g) fs cs)(hg:(E.fn g).isSome=true){σ:List Nat}
 (_hσ:a0j H a3n (a0x (fs++args.toList.map (opv E F)++cs)) []=σ)(hc:(a25 σ&&σ.all (λb=>Nat.blt b H.length))=true)
 (h:PanF E g ((fs++args.toList.map (opv E F)++cs).map (ren (a2w σ))) (a0q H σ (a2w σ)) p)(hH:a96 σ 0 H=H'):PanOG E M m N o F H p F H':=PanOG.callS cV hf hg σ hc h hH
theorem PanOG.callW{f:Operand}{args:Array Operand}{fB:Array TypeId}(cV:o.op = .call ⟨.value f,args,fB⟩){g:FuncId}{fs cs:List AV}(hf:opv E F f = .func (.func g) fs cs)(hg:(E.fn g).isSome=true)
 (h:PanF E g (fs++args.toList.map (opv E F)++cs) H p):PanOG E M m N o F H p F (a7g H):=by
 intro ok al hM ro e K Q he hQ I ρ dG w ae;have hv:=a6h ae.rel ae.frm f;rw[hf]at hv;simp only[VRel]at hv;obtain⟨di,aT,fJ,gJ,dp⟩:=hv;have aV:VRels I w ρ (fs++args.toList.map (opv E F)++cs) (di++args.map dG.eval++aT).toList:=by simp only[e6z,e5t];exact VRels.append (VRels.append gJ (a39 (a6h ae.rel ae.frm) args.toList)) dp
 refine a4t (by rw[cV];intro c hc;cases hc) ?_;rw[a5i cV fJ,a1u ok hg];have aX:=h I e.K ρ w _ ae.rel ae.nrel aV;obtain⟨i,hi⟩:=e24.1 hg;rw[a3l (b20 ok hi)]at aX;have bU:(di++args.map dG.eval++aT).toList.toArray=di++args.map dG.eval++aT:=by apply e6c;simp
 rw[bU]at aX;refine a4b (Calls.mono aX ?_)
 rintro en w' ⟨rfl,I',ρ',aB⟩
 have hn:=ae.call (d:=none) (v:=.junk) (c:=.nilFunc) aB rfl (by simp[VRel]);exact hQ I' ρ' dG w' hn
theorem PanOG.halt{f:Operand}{t:TypeId}{v:AV}{c0:Value}(hv:opv E F f = .iface t v)(hc:∀I w ρ c,VRel I w ρ v c→c=c0)(hp:p = .iface t c0)
 (hr:∀{a:Act} {w:World},a.eval f = .iface t c0→(execOp a.eval o).run E.P w = .halt (.panic (.iface t c0)) w)(hd:∀c,o.op≠ .defer c):PanOG E M m N o F H p F H:=by
 intro ok al hM ro e K Q he hQ I ρ dG w ae;have h:=a6h ae.rel ae.frm f;rw[hv]at h;simp only[VRel]at h;obtain⟨x',hx,sO⟩:=h;obtain rfl:=hc _ _ _ _ sO;refine a4t hd ?_;rw[hr hx,Oper.uponIn_panic,←hp];exact hQ I ρ dG w ae
end
theorem b0r{E:Env}(ok:EnvOk E){ro:Option Nat}{call:FuncId→List AV→a08→Option (AV×a08)}(am:a3d E call){e:Entry}{N:Nat}{au:Array Oper}{R:Type}{k:Frm→a08→Option R}{r:R}
 {Q:Exit→Act→World→Prop}{tl:List Nat}(hQ:∀F H I ρ a w,Now E e N F H I ρ a w→k F H=some r→wpOpsIn (wf ro) 0 E.P au Q tl a w) :
 ∀(ag:List Oper) (s:Nat) (log:List LogE) (F:Frm) (H:a08) (I:Nat→Prop) (ρ:PMap) (a:Act) (w:World),(∃post,au.toList.drop s=ag++post)→Now E e N F H I ρ a w→
  a26 E false N call au.toList ag log F H k=some r→wpOpsIn (wf ro) 0 E.P au Q (List.range' s ag.length++tl) a w
 | [],s,log,F,H,I,ρ,a,w,_,ae,ac=>by simp only[a26,e7g,Bool.true_or,e3e]at ac;simp only[e27,List.range'_zero,b43];exact hQ F H I ρ a w ae ac
 |o::ag,s,log,F,H,I,ρ,a,w,⟨post,cj⟩,ae,ac=>by
  have ho:au[s]?=some o:=by
   have:(au.toList.drop s)[0]?=some o:=by rw[cj];rfl
   rw[e6h]at this;simpa using this
  have fg:au.toList.drop (s+1)=ag++post:=by
   have:(au.toList.drop s).drop 1=ag++post:=by rw[cj];rfl
   rw[e7h]at this;exact this
  rw[b94,List.range'_succ,b82];unfold a26 at ac;rw[cond_eq_ite]at ac;split at ac
  case isFalse=>cases ac
  rename_i hd;have ih:=λlog F H I ρ a w ae ac=>b0r (ro:=ro) ok am hQ ag (s+1) log F H I ρ a w ⟨post,fg⟩ ae ac;have exec:∀F0,Now E e N F0 H I ρ a w→(match a1c E false call F0 H o.op with
   |some (v,H',l)=>a26 E false N call au.toList ag (l::log) (a3f F0 o.dst v) H' k
   |none=>none)=some r→Region.wanted o (yielded au a.tmps)=true→wpOpsIn (wf ro) 0 E.P au Q (s::(List.range' (s+1) ag.length++tl)) a w:=by
   intro F0 ev hr hw;split at hr
   case h_2=>cases hr
   rename_i v H' l hs;exact a61 ho hw (b2t ok am ev hs hd (λI' ρ' a' w' iT=>ih _ _ _ I' ρ' a' w' iT hr))
  have skip:∀F0 go,Now E e N F0 H I ρ a w→a26 E false N call au.toList ag go (a3f F0 o.dst (.tuple [])) H k=some r→Region.wanted o (yielded au a.tmps)=false→
   wpOpsIn (wf ro) 0 E.P au Q (s::(List.range' (s+1) ag.length++tl)) a w:=by
   intro F0 go ev hr hw;exact b51 ho hw (ih _ _ _ I ρ _ w (ev.skip hd) hr)
  split at ac
  ·rename_i hg;exact exec F ae ac (by simp[Region.wanted,hg])
  ·rename_i j bQ hg;split at ac
   case h_1=>cases ac
   rename_i d lx;obtain⟨pG,pF⟩:=b50 ae lx;split at ac
   ·rename_i b hb;have mn:=pG b hb;have cg:=ae.frm.2 d;rw[hb]at cg;have hw:Region.wanted o (yielded au a.tmps)=(b==bQ):=by simp[Region.wanted,hg,mn]
    cases b
    ·simp only[e3p]at ac;have ev:=ae.refine (d:=d) (v:=.bool false) cg;cases bQ
     ·simp only[e3p]at ac;exact exec _ ev ac (by rw[hw];rfl)
     ·simp only[e3e]at ac;exact skip _ _ ev ac (by rw[hw];rfl)
    ·simp only[e3e]at ac;have ev:=ae.refine (d:=d) (v:=.bool true) cg;cases bQ
     ·simp only[e3p]at ac;exact skip _ _ ev ac (by rw[hw];rfl)
     ·simp only[e3e]at ac;exact exec _ ev ac (by rw[hw];rfl)
   ·rename_i hb;have mn:=pF hb;exact skip F _ ae ac (by simp[Region.wanted,hg,mn])
   ·cases ac
theorem PanG.region{E:Env}{M:List Fact}{m N cur:Nat}{keep:Nat→List Nat}{id:Nat}{au:Array Oper}{F F1 F':Frm}{H H1 H':a08}{p:Value}{log:List LogE}(s:Nat)(hr:a7h E false N (sem E M) au.toList (au.toList.take s) [] F H=some (F1,H1,log))
 {o:Oper}(ho:au.toList[s]?=some o)(hg:o.guard=none)(h:PanOG E M m N o F1 H1 p F' H'):PanG ⟨E,M,m,N,keep,cur⟩ (.region id au false) F H p F' H':=by
 intro ok al hM fid ro e Q he hd bv hQ I ρ dG w ae;have he:e.m=m:=he;have ep:au[s]?=some o:=by simpa using ho
 have hs:s<au.size:=(e54.1 ep).1;refine wpIn_region ?_;have mF:List.range au.size=List.range' 0 (au.toList.take s).length++(s::List.range' (s+1) (au.size-s-1)):=by rw[List.range_eq_range',e4z,e3i,Nat.min_eq_left (by omega),←List.range'_succ,show au.size-s-1+1=au.size-s by omega];have:=List.range'_append (s:=0) (m:=s) (n:=au.size-s) (step:=1);rw[show 0+1*s=s by omega]at this;rw[this];congr 1;omega
 rw[mF];refine b0r ok (sem_ok ok al hM) (k:=λF H=>some (F,H)) (r:=(F1,H1)) ?_ (au.toList.take s) 0 [] F H I ρ dG w ⟨au.toList.drop s,by simp⟩ ae ?_
 ·intro F2 H2 I2 ρ2 a2 w2 fG hk;cases hk;exact a61 ep (by simp[Region.wanted,hg]) (h ok al hM he hQ fG)
 ·rw[a6r,hr];rfl
theorem PanOG.noF{E:Env}{M:List Fact}{m N:Nat}{F F':Frm}{H H':a08}{p:Value}{o:Oper}(h:PanOG E M m N o F H p F' H'):d8a E M m N o F H p H':=λok al hM _ _ _ _ he hQ _ _ _ _ ae=>h ok al hM he (λI ρ a w hn=>hQ I ρ a w hn.noF) ae
theorem Now.dead{E:Env}{e:Entry}{N:Nat}{F:Frm}{H:a08}{I:Nat→Prop}{ρ:PMap}{a:Act}{w:World}(h:Now E e N F H I ρ a w):∃ρ',Now E e N [] (List.replicate e.m none) I ρ' a w:=by
 have hd:∀b,a03 (List.replicate e.m (none:Option AObj)) b=none:=by intro b;unfold a03;rw[List.getElem?_replicate];split<;>rfl
 refine⟨λb=>if b<e.m then ρ b else none,h.imm,λb hb=>by rw[e3g hb];exact h.map b hb,h.ext,⟨λb o hb=>(by rw[hd]at hb;cases hb),λb b' m m' hb=>(by rw[hd]at hb;cases hb),λb m hb=>?_,h.rel.imm,h.rel.kept,h.rel.apart,h.rel.glob⟩,λb hb=>?_,⟨h.frm.1,λs=>by simp[a2h,VRel]⟩,by simp,h.marks⟩
 ·split at hb
  ·exact h.rel.dom b m hb
  ·cases hb
 ·rw[e74]at hb;exact e2i (by omega)
theorem PanC.dead{x:Cx}{c:Code}{F:Frm}{H H':a08}{p:Value}(h:PanC x c F H p H'):PanC x c F H p (List.replicate x.m0 none):=by intro ok al hM fid ro e Q he hd bv hQ I ρ dG w ae;refine h ok al hM he hd bv ?_ ae;intro I ρ a w hn;obtain⟨ρ',iT⟩:=hn.dead;rw[he]at iT;exact hQ I ρ' a w iT
theorem b5p(all:List Oper)(j:Nat):∀(i:Nat) (l:List LogE),l.length=i→logOk.logRow all j ⟨[],[]⟩ i l=true
 |_,[],_=>by simp[logOk.logRow]
 |0,_::_,h=>by simp at h
 |i+1,x::r,h=>by
  simp only[logOk.logRow,b5p all j i r (by simpa using h),Bool.and_true];have e1:∀l,b3a l []=false:=by intro l;simp[b3a,a1i]
  simp[LogE.clash,e1]
def d9r:AV:=.imap [.junk] [] [] 0
theorem d30{I:Nat→Prop}{w:World}{ρ:PMap}{c:Value}(h:VRel I w ρ d9r c):False:=by simp only[d9r,VRel]at h;obtain⟨b,es,_,_,_,h1,h2,_⟩:=h;have e1:=VRels.length h1;have e2:=VRels.length h2;simp at e1 e2;omega
theorem PanC.drawn{E:Env}{M:List Fact}{m N cur:Nat}{keep:Nat→List Nat}{id:Nat}{au:Array Oper}{F F1:Frm}{H H1:a08}{p:Value}{log:List LogE}(s:Nat)(hs:au.toList.length=s+1)
 (hr:a7h E true N (sem E M) au.toList (au.toList.take s) [] F H=some (F1,H1,log))(hl:logOk au.toList log.length log=true){o:Oper}(ho:au.toList[s]?=some o)(hg:o.guard=none){d:Nat}(hd:o.dst=some d)
 {f:Operand}{args:Array Operand}{fB:Array TypeId}(cV:o.op = .call ⟨.value f,args,fB⟩){g:FuncId}(hf:opv E F1 f = .func (.func g) [] [])(o7:(E.fn g).isSome=true)
 (aV:a0x (args.toList.map (opv E F1))=[])(hp:PanF E g (args.toList.map (opv E F1)) [] p):PanC ⟨E,M,m,N,keep,cur⟩ (.region id au true) F H p (List.replicate m none):=by
 intro ok al hM fid ro e Q he kw bv hQ I ρ dG w ae;have he:e.m=m:=he;subst he;have aR:b9b au.toList=true:=by
  unfold a1p at kw;rw[cond_eq_ite]at kw;split at kw
  ·simp at kw
  ·simpa using kw
 refine wpIn_region_any ok.mixed ?_;have ep:au[s]?=some o:=by simpa using ho
 have ac:a26 E true N (sem E M) au.toList (au.toList.take s) [] F H (λF H=>some (F,H))=some (F1,H1):=by rw[a6r,hr];simp[hl]
 obtain⟨aS,F',H',h1,h2,h3,h4,h5,h6,h7⟩:=a6s (post:=[o]) (ro:=ro) (e:=e) (N:=N) (m0:=H.length) (Q:=Q) (f0:=a2h F) (h0:=a03 H) ok (sem_ok ok al hM) ae.low (au.toList.take s) [] F H
  (by simp only[e27,e5b];have h1:=e70 (l:=au.toList) (i:=s);rw[ho,e3c (by omega)]at h1;exact h1.symm)
  (by simp only[e27,e4z,b94,e3i]at hs⊢;omega) rfl rfl rfl (λi r h=>by simp[nth]at h) ac
 cases h7;have mD:aS.length=s:=by simp only[b94,e27,e3i]at h1 hs;omega
 have gx:∀i,(Array.replicate au.size false).getD i false=false:=by intro i;simp only[e53,Array.getElem?_replicate];split<;>rfl
 have dV:∀{V:Type} (o:Rec→Nat→Option V) (g0:Nat→V) (l:List Rec),gL o g0 (λi=>(Array.replicate au.size false).getD i false) l=g0:=by
  intro V o g0 l
  induction l with
  |nil=>rfl
  |cons a ag ih=>unfold gL;rw[e2i (by rw[gx];simp)];exact ih
 refine c1z (aS:=⟨some d,d9r,λ_=>none,0,⟨[],[]⟩⟩::aS) aR (by simpa using h1) (h5.cons ?_) ?_ ?_ au.size _ I ρ dG _ (by simp) ?_ ?_ ?_
 ·refine⟨λo1 cH=>?_,by simp,?_⟩
  ·rw[mD,ep]at cH;cases cH;exact hd.symm
  intro C f1 h I1 ρ1 a1 w1 aY dz uH hC K hK;rw[mD]at dz⊢;have dz:=dz o ep;unfold wpOpIn;simp only[ep];rw[e3g (by simp[Region.wanted,hg])];have dc:=a9u (E:=E) (F:=F1) (f:=f1) (l:=o.op.operands.toList) (λt ht=>by rw[dz t (b8k ht),←h2]);have gr:=aY.opvf f;have e1:∀x∈o.op.operands.toList,opvf E f1 x=opv E F1 x:=λx hx=>(dc x hx).symm;have tD:f∈o.op.operands.toList:=by rw[cV];simp[Op.operands,Call.operands]
  have ub:∀x∈args.toList,x∈o.op.operands.toList:=by intro x hx;rw[cV];simp[Op.operands,Call.operands];right;simpa using hx
  rw[e1 f tD,hf]at gr;simp only[VRel,VRels]at gr;obtain⟨di,aT,fJ,gJ,dp⟩:=gr;have gJ:di = #[]:=by apply e6c;simpa using gJ
  have dp:aT = #[]:=by apply e6c;simpa using dp
  subst gJ;subst dp;have iH:VRels I1 w1 ρ1 (args.toList.map (opv E F1)) (args.map a1.eval).toList:=by have:args.toList.map (opv E F1)=args.toList.map (opvf E f1):=e5c λx hx=>(e1 x (ub x hx)).symm;rw[this,e5t];exact a39 aY.opvf args.toList
  have pM:VRels I1 w1 (λ_=>none) (args.toList.map (opv E F1)) (args.map a1.eval).toList:=by
   have:=VRels.ren (π:=λ_=>none) (ρ':=λ_=>none) (λb b' m h=>by cases h) _ iH
   rwa [a5w,a5f _ aV]at this
  have nM:HRel E.G I1 e.K (λ_=>none) (a03 []) w1:=⟨λb o hb=>(by simp[a03]at hb),λb b' m m' hb=>(by simp[a03]at hb),λb m hb=>(by cases hb),aY.rel.imm,aY.rel.kept,aY.rel.apart,aY.rel.glob⟩
  have aX:=hp I1 e.K (λ_=>none) w1 _ nM (λ_ _=>rfl) pM;obtain⟨i,hi⟩:=e24.1 o7;rw[a3l (b20 ok hi)]at aX;refine a4t (by rw[cV];intro c hc;cases hc) ?_;rw[a5i cV fJ,a1u ok o7];have bU:(args.map a1.eval).toList.toArray = #[]++args.map a1.eval ++ #[]:=by apply e6c;simp
  rw[bU]at aX;refine a4b (Calls.mono aX ?_)
  rintro en w' ⟨rfl,I',ρ',aB⟩
  have kQ:∀b,a03 (List.replicate e.m (none:Option AObj)) b=none:=by intro b;unfold a03;rw[List.getElem?_replicate];split<;>rfl
  refine hQ I' (λb=>if b<e.m then ρ1 b else none) a1 w' ⟨λc hc=>aB.imm c (aY.imm c hc),λb hb=>by rw[e3g hb];exact aY.map b hb,aY.ext.trans aY.imm aB.ext,⟨λb o hb=>(by rw[kQ]at hb;cases hb),λb b' m m' hb=>(by rw[kQ]at hb;cases hb),λb m hb=>?_,aB.rel.imm,aB.rel.kept,aB.rel.apart,aB.rel.glob⟩,λb hb=>?_,⟨aY.size,λs=>by simp[a2h,VRel]⟩,by simp,aY.marks.mono aB.imm (λc hc=>aB.ext.keep c (.inl hc))⟩
  ·have bA:=aB.ext.size;split at hb
   ·have:=aY.rel.dom b m hb;omega
   ·cases hb
  ·rw[e74]at hb;exact e2i (by omega)
 ·simp only[e2b,b94,logOk,b46];exact⟨b5p _ _ _ _ rfl,h6⟩
 ·intro I1 ρ1 a1 w1 aY;exfalso;have h0:VRel I1 w1 ρ1 d9r (a1.tmps.getD d undef):=by
   have:=aY.frm d;simpa[gL,a3t,fov]using this
  exact d30 h0
 ·refine e5w (List.length_filter_le _ _) (by simp)
 ·intro j hj;have:=gx j;rw[this]at hj;cases hj
 ·have cD:=ae.drew;rw[dV,dV];exact⟨cD.imm,cD.map,cD.ext,cD.rel,λb hb _=>cD.nrel b hb,⟨_,cD.nrel⟩,cD.frm.1,cD.frm.2,cD.marks⟩
/-! ### functions -/
theorem a9x{P:Program}{n:Nat}{F:Fence}{fn:Func}{tmps:Array Value}{R:Ending→World→Prop}{ch:List PanicEntry}:∀(rs:List Nat) (w:World),rs.Nodup→(∀r∈rs,w.heap[r]?=some (.deferred (some [])))→
 R (.panicked ch) (a1y rs w)→LeavesInM F n P fn tmps R (rs.map (λr=>(⟨.collected r,#[]⟩:Deferred))) (.panicking ch) w
 | [],w,_,_,h=>by simpa[LeavesInM,LeavesIn,a1y]using h
 |r::rs,w,dl,hr,h=>by simp only[e2b,LeavesInM];refine⟨by simp,.inl ⟨r,w.putObj r (.deferred none),rfl,run_takeDeferred (hr r (by simp)),?_⟩⟩;have dl:=e66.1 dl;refine a9x rs _ dl.2 (λq hq=>?_) h;have aK:q≠r:=λe=>dl.1 (by rw[←e];exact hq);rw[World.putObj_heap_other aK];exact hr q (by simp[hq])
theorem PanF.of{E:Env}(ok:EnvOk E)(al:DrOk E){M:List Fact}(hM:∀y∈M,b0f E y){g:FuncId}{i:FInfo}(hi:E.fn g=some i){args:List AV}{H H':a08}{p:Value}(aN:Nat.ble args.length i.ntmps=true)
 (kB:PanC (cx E M H.length i.ntmps g 0) i.code (a3k 0 args) H p H'):PanF E g args H p:=by
 intro I K ρ w ah rel hn ha;obtain⟨fn,h1,h2,h3,h4,_⟩:=ok.fn g i hi;rw[a3l (b20 ok hi)];refine callsIn_wide.1 (callsIn_of_wp_marks (F:=Fence.wide) (n:=0) h1 h2 trivial ?_);rw[h3]
 let e:Entry:=⟨I,K,ρ,H.length,w,[]⟩
 have ae:Now E e i.ntmps (a3k 0 args) H I ρ { tmps:=ah.toArray++Array.replicate (i.ntmps-ah.toArray.size) undef,defers:=[] } w:=⟨λ_ h=>h,λ_ _=>rfl,Ext.refl _ _ _,rel,hn,b03 (by simpa[e5e]using aN) ha,e2c _,Marks.nil⟩
 refine kB ok al hM (fid:=g) (ro:=none) (e:=e) rfl (al.draws g i hi) (al.code hi) ?_ ae;intro I1 ρ1 a w1 aY;obtain⟨rs,q1,q2,q3⟩:=aY.marks;show LeavesInM _ _ _ _ _ _ a.defers _ _;rw[q1,show e.base=[]from rfl,e2h];refine a9x rs w1 q2 (λr hr=>(q3 r hr).2.2) ?_;obtain⟨s1,s2,s3,s4,s5⟩:=a5o rs w1;have ig:HRel E.G I1 K ρ1 (a03 H') (a1y rs w1):=HRel.shut aY.rel (S:=(·∈rs)) (λc hc=>⟨(q3 c hc).1,_,(q3 c hc).2.2⟩) s1 s5;have mZ:Ext I K w (a1y rs w1):=by refine⟨by rw[s3];exact aY.ext.os,by rw[s2];exact aY.ext.tape,by rw[s4];exact aY.ext.output,by rw[s1];exact aY.ext.size,λc hc=>?_⟩;have aq:c<w.heap.size:=hc.elim (rel.imm c) (rel.kept c);rw[s5 c (λhm=>by have h:w.heap.size≤c:=(q3 c hm).2.1;omega)];exact aY.ext.keep c hc
 obtain⟨I2,ρ2,f1,f2,f3,f4,f5,_⟩:∃I' ρ',(∀c,I1 c→I' c)∧(∀b,b<H.length→ρ' b=ρ1 b)∧HRel E.G I' K ρ' (a03 (a7g H)) (a1y rs w1)∧NRel ρ' (a7g H).length∧H.length≤(a7g H).length∧True:=by
  refine⟨I1,λb=>if b<H.length then ρ1 b else none,λ_ h=>h,λb hb=>e3g hb,?_,?_,by simp[a7g],trivial⟩
  ·refine⟨λb o hb=>(by rw[a8m]at hb;cases hb),λb b' m m' hb=>(by rw[a8m]at hb;cases hb),λb m hb=>?_,ig.imm,ig.kept,ig.apart,ig.glob⟩;split at hb
   ·exact ig.dom b m hb
   ·cases hb
  ·intro b hb;have:¬b<H.length:=by simp[a7g]at hb;omega
   exact e2i this
 exact⟨rfl,I2,ρ2,⟨λc hc=>f1 c (aY.imm c hc),λb hb=>by rw[f2 b hb];exact aY.map b hb,mZ,f3,f4,f5⟩⟩
end Go.Ax
/- AxBuf: a string's bytes behind those of a buffer whose block's type is told. -/
namespace Go.Ax
def c74(w:World)(g:Nat)(t:TypeId)(c:Nat)(xs:List Value):Prop:=∃cur:Array Value,w.heap[g]?=some (.cells cur t (0,0))∧c≤cur.size∧∀(j:Nat) (x:Value),xs[j]?=some x→cur[j]?=some x
structure Buffed(w w':World)(g:Option Nat)(t:TypeId)(v':Value)(xs:List Value):Prop where
 os:w'.os=w.os
 tape:w'.tape=w.tape
 output:w'.output=w.output
 size:w.heap.size≤w'.heap.size
 other:∀k,k<w.heap.size→some k≠g→w'.heap[k]?=w.heap[k]?
 buf:∃g' c',v' = .slice (some ⟨g',0,none⟩) xs.length c'∧xs.length≤c'∧(some g'=g∨w.heap.size≤g')∧c74 w' g' t c' xs
section
variable {E:Env}{w:World}
theorem b1m(size:Nat)(s:ByteArray)(w':World):(Builtin.firstCells size s.size (.string s)).run E.P w' = .ok (Lib.strCells s).toArray w':=Lib.run_firstCells_string (P:=E.P) w' size s
theorem c24(ok:EnvOk E){st xt af:TypeId}{dx:TypeDesc}(hu:E.und st=some (.slice af))(ff:E.und xt=some dx)(bO:a2s dx=false){z:List AV}(hz:E.zero af=some z)(bA:E.sz af=1){base:Option Addr}{n c:Nat}{xs:List Value}{s:ByteArray}(ty:TypeId)
 (hn:xs.length=n)(a8:∀w',SameMem w w'→(Builtin.firstCells 1 n (.slice base n c)).run E.P w' = .ok xs.toArray w')(iv:c<n+s.size)(aJ:a2j E af (n+s.size)=true)(g:Option Nat) :
 ∃v' w',(Builtin.append_ #[st,xt] ty #[.slice base n c,.string s]).run E.P w = .ok v' w'∧Buffed w w' g af v' (xs++Lib.strCells s):=by
 obtain⟨bG,zs,w0,fl,bD,jg,ac⟩:=a7o (w:=w) ok hu ff bO hz (base:=base) (aW:=n) (cN:=c) (m:=s.size) (cx:=.string s) (eW:=xs.toArray) (new:=(Lib.strCells s).toArray) ty rfl iv aJ (by rw[bA];exact a8) (λw' _=>b1m _ s w');refine⟨_,_,ac,fl.2.2.1,fl.2.1,fl.2.2.2,by rw[fl.1];simp,λk hk _=>?_,w.heap.size,bG,by rw[e2f,hn,Lib.strCells_length],by rw[e2f,hn,Lib.strCells_length];exact bD,.inr (e2c _),_,by show(w0.heap.push _)[w.heap.size]?=_;rw[fl.1,e5k,e3g rfl],?_,λj x hj=>?_⟩
 ·show(w0.heap.push _)[k]?=_;rw[fl.1,e5k,e2i (by omega)]
 ·have dz:∀m,(List.replicate m zs).flatten.length=m:=by
   intro m
   induction m with
   |zero=>simp
   |succ m ih=>rw[e6p,e5h,e2f,ih,jg,bA];omega
  simp only[Array.size_append,List.size_toArray,dz,hn,Lib.strCells_length];omega
 ·have iY:=(e26.1 hj).1;rw[e5s (by simpa using iY)];simpa using hj
theorem c38(ok:EnvOk E){st xt af:TypeId}{dx de:TypeDesc}(hu:E.und st=some (.slice af))(cq:E.und af=some de)(ff:E.und xt=some dx)(bO:a2s dx=false){z:List AV}(hz:E.zero af=some z)(bA:E.sz af=1){a:Addr}{g c:Nat}{xs:List Value}{s:ByteArray}(ty:TypeId)
 (hs:s.size≠0)(ha:c=0∨a=⟨g,0,none⟩)(hc:xs.length≤c)(hb:c74 w g af c xs)(aJ:a2j E af (xs.length+s.size)=true) :
 ∃v' w',(Builtin.append_ #[st,xt] ty #[.slice (some a) xs.length c,.string s]).run E.P w = .ok v' w'∧Buffed w w' (some g) af v' (xs++Lib.strCells s):=by
 obtain⟨cur,hg,fi,hx⟩:=hb;by_cases cG:xs.length+s.size≤c
 ·have ha:a=⟨g,0,none⟩:=ha.resolve_left (by omega);subst ha;obtain⟨w',ac,⟨ef,bE,iM⟩,bX,be,ht,gu,bh,bx,cJ⟩:=b0i (w:=w) (blk:=g) (o:=xs.length) (e:=af) (Lib.strCells s) hg (by rw[Lib.strCells_length];omega) (λc hc=>Lib.strCells_oneCell s c hc) E.P;refine⟨_,w',run_append_fits ok hu cq ff bO ty (m:=s.size) rfl cG (by rw[bA];exact b1m 1 s w) (λa ha=>?_) (λh=>by cases h),gu,ht,bh,by omega,λk hk aK=>bX k (λe=>aK (by rw[e])),g,c,by rw[e2f,Lib.strCells_length],by rw[e2f,Lib.strCells_length];exact cG,.inl rfl,ef,bE,by omega,?_⟩
  ·cases ha;rw[a2y,bA,Nat.mul_one,e55];simpa using ac
  ·intro j x hj;rcases e6m j xs.length with h1|h1
   ·rw[e3q h1]at hj;have:=cJ j (.inl h1);rw[a1k bE,a1k hg]at this;rw[this];exact hx j x hj
   ·rw[e3l h1]at hj;have:=bx (j-xs.length) x hj;rw[a1k bE]at this;rw[show xs.length+(j-xs.length)=j by omega]at this;exact this
 ·refine c24 ok hu ff bO hz bA ty rfl ?_ (by omega) aJ (some g);intro w' li;by_cases h0:c=0
  ·have:xs=[]:=e6e.1 (by omega);subst this;simp[Builtin.firstCells,loadCells,loadCellsFrom]
  ·have ha:a=⟨g,0,none⟩:=ha.resolve_left h0;subst ha;have:=run_loadCells_list (P:=E.P) w' ⟨g,0,none⟩ xs (λj v hj=>by
    rw[a2y,e55,li.cell,a1k hg];exact hx j v hj)
   simpa[Builtin.firstCells]using this
end
end Go.Ax
/- AxCell: a call that is handed a cell which c8g a slice. -/
namespace Go.Ax
end Go.Ax
/- AxCal: a call over any heap, told by its blocks. -/
namespace Go.Ax
theorem b1p:∀{l:List Nat},a25 l=true→l.Nodup
 | [],_=>List.nodup_nil
 |a::l,h=>by
  simp only[a25,b46,e5i]at h;refine e66.2 ⟨λhm=>?_,b1p h.2⟩;have:a1i l a=true:=by
   clear h
   induction l with
   |nil=>cases hm
   |cons b l ih=>
    rw[a04];rcases e3b.1 hm with rfl|hm
    ·simp
    ·simp[ih hm]
  rw[this]at h;cases h.1
theorem b3m:∀{l:List Nat},l.Nodup→∀{j b:Nat},l[j]?=some b→l.idxOf? b=some j
 | [],_,j,b,hj=>by simp at hj
 |a::l,h,0,b,hj=>by
  have:a=b:=by simpa using hj
  subst this;simp[e2g]
 |a::l,h,j+1,b,hj=>by
  have hj:l[j]?=some b:=by simpa using hj
  have h:=e66.1 h;have mX:a≠b:=λe=>h.1 (by rw[e];exact e25 hj);have ih:=b3m h.2 hj;rw[e2g,ih];simp[mX]
theorem c5n{l:List Nat}{b:Nat}(h:b∉l):l.idxOf? b=none:=by rw[List.idxOf?_eq_none_iff];exact h
theorem b08{E:Env}{call:CallF}{g:FuncId}{fs cs ar args an:List AV}{H H0 H1:a08}{v v':AV}{σ:List Nat}(hx:E.ext g=false)(hf:(E.fn g).isSome=true)(he:fs++ar++cs=args)
 (hσ:a0j H 1000000 (a0x args) []=σ)(hn:a25 σ=true)(hl:(σ.all λb=>decide (b<H.length))=true)(s7:args.map (ren (a2w σ))=an)(hH:a0q H σ (a2w σ)=H0)
 (hr:call g an H0=some (v,H1))(hv:ren (a1e σ H.length) v=v') :
 ∃H',a0e E false call (.func (.func g) fs cs) ar H=some (v',H',σ)∧H'.length=H.length+(H1.length-σ.length)∧(∀j b,σ[j]?=some b→a03 H' b=(a03 H1 j).map (a0t (a1e σ H.length)))∧
  (∀b,b<H.length→b∉σ→a03 H' b=a03 H b)∧∀j,a03 H' (H.length+j)=(a03 H1 (σ.length+j)).map (a0t (a1e σ H.length)):=by
 have aX:=a0b (call g) args H hσ hn hl s7 hH hr;have dl:=b1p hn;rw[e3n]at hl;refine⟨_,a2g hx hf he (aX.trans (by rw[hv])),?_,?_,?_,?_⟩
 ·simp[a1b]
 ·intro j b hj;have hb:b<H.length:=by simpa using hl b (e25 hj)
  rw[b77 (eq_true (by rw[a1b];exact hb))];unfold a03;rw[a7s,z9e hb,e55,b3m dl hj];simp only[e2a,e63];rfl
 ·intro b hb h1;rw[b77 (eq_true (by rw[a1b];exact hb))];unfold a03;rw[a7s,z9e hb,e55,c5n h1];rfl
 ·intro j;have hp:=a1b σ H.length H1 0 H;have e:H.length+j=(a0n σ H.length H1 0 H).length+j:=by rw[hp]
  rw[e,c8h];unfold a03;rw[e2e,e6h];cases H1[σ.length+j]? with
  |none=>rfl
  |some x=>cases x<;>rfl
theorem a17(H:a08)(n:Nat)(bj:List Nat):a0j H (n+1) [] bj=bj.reverse:=by unfold a0j;rfl
theorem a06{H:a08}{n:Nat}{b:Nat}{cY bj:List Nat}(h:a1i bj b=false):a0j H (n+1) (b::cY) bj=a0j H n (a36 (a03 H b)++cY) (b::bj):=by
 conv=>lhs;unfold a0j
 rw[h];rfl
theorem a9t{H:a08}{n:Nat}{b:Nat}{cY bj:List Nat}(h:a1i bj b=true):a0j H (n+1) (b::cY) bj=a0j H n cY bj:=by
 conv=>lhs;unfold a0j
 rw[h];rfl
end Go.Ax
/- AxPcs: walks of code that ends in a panic, in the style of AxWp. -/
namespace Go.Ax
def pq(x:Cx)(b:Code)(p:Value)(F':Frm)(H':a08):b4z:=λe F H=>match e with|.normal=>PanG x b F H p F' H'|_=>False
section
variable {E:Env}{M:List Fact}{m N:Nat}{g:FuncId}{cur:Nat}{F F1 F':Frm}{H H1 H':a08}{p:Value}{a b:Code}
theorem pcs(h:Wp (cx E M m N g cur) a F H (pq (cx E M m N g cur) b p F' H')):PanG (cx E M m N g cur) (.seq a b) F H p F' H':=by
 obtain⟨e,F',H1,h1,h2⟩:=b6b _ h;cases e with
 |normal=>exact PanG.seqR h1 h2
 |exit _=>exact h2.elim
 |ret=>exact h2.elim
theorem a1m{x:Cx}(h:PanG x b F H p F' H'):pq x b p F' H' .normal F H:=h
theorem pcr{id:Nat}{au:Array Oper}{log:List LogE}(s:Nat)(hr:a7h E false N (sem E M) au.toList (au.toList.take s) [] F H=some (F1,H1,log))
 {o:Oper}(ho:au.toList[s]?=some o)(hg:o.guard=none)(h:d8a E M m N o F1 H1 p H'):PanC (cx E M m N g cur) (.region id au false) F H p (List.replicate m none):=PanC.dead (x:=cx E M m N g cur) (PanG.region s hr ho hg h)
theorem d92{id:Nat}{au:Array Oper}{log:List LogE}(s:Nat)(hr:a7h E false N (sem E M) au.toList (au.toList.take s) [] F H=some (F1,H1,log))
 {o:Oper}(ho:au.toList[s]?=some o)(hg:o.guard=none)(h:PanOG E M m N o F1 H1 p F' H'):PanG (cx E M m N g cur) (.region id au false) F H p F' H':=PanG.region s hr ho hg h
theorem pf(f:Func){args:List AV}(ok:EnvOk E)(al:DrOk E)(hM:∀y∈M,b0f E y)(cI:E.fn g=some ⟨f.body.getD .skip,f.ntmps,f.results.toList⟩)(h:PanC (cx E M H.length f.ntmps g 0) (f.body.getD .skip) (a3k 0 args) H p (List.replicate H.length none))(hN:Nat.ble args.length f.ntmps=true:=by rfl):PanF E g args H p:=PanF.of ok al hM cI hN h
theorem d6c{o:Oper}{f:Operand}{t:TypeId}{k:IntKind}{n:Int}(ho:o.op = .panic f)(hv:opv E F f = .iface t (.int k n)):d8a E M m N o F H (.iface t (.int k n)) H:=by refine PanOG.noF (F':=F) (PanOG.halt hv (λI w ρ c h=>by simpa only[VRel]using h) rfl ?_ (by rw[ho];intro c h;cases h));intro a w hf;unfold execOp;rw[ho];simp only[hf];rfl
theorem b8u:∀(b:Nat) (H:a08),a96 [] b H=H
 |_,[]=>rfl
 |b,o::r=>by simp only[a96,b8u (b+1) r];rfl
theorem a1z{o:Oper}{f:Operand}{args:Array Operand}{fB:Array TypeId}(cV:o.op = .call ⟨.value f,args,fB⟩){g1:FuncId}(hf:opv E F f = .func (.func g1) [] []){l:List AV}(ha:args.toList.map (opv E F)=l)(hl:a0x l=[])
 (h:PanF E g1 l [] p)(hg:(E.fn g1).isSome=true:=by kernel_rfl):d8a E M m N o F H p H:=by
 have e:([]:List AV)++args.toList.map (opv E F)++[]=l:=by simp[ha]
 refine PanOG.noF (F':=F) (PanOG.call (fs:=[]) (cs:=[]) (σ:=[]) cV hf hg (by rw[e,hl];rfl) (by rfl) ?_ (b8u 0 H));rw[e,a5f _ hl];exact h
theorem d1t{o:Oper}{f:Operand}{args:Array Operand}{fB:Array TypeId}(cV:o.op = .call ⟨.value f,args,fB⟩){g1:FuncId}{fs cs l l1:List AV}(hf:opv E F f = .func (.func g1) fs cs)(ha:fs++args.toList.map (opv E F)++cs=l){σ:List Nat}
 (hσ:a0j H a3n (a0x l) []=σ)(hc:(a25 σ&&σ.all (λb=>Nat.blt b H.length))=true)(hl:l.map (ren (a2w σ))=l1){Hs:a08}(hH:a0q H σ (a2w σ)=Hs)(h:PanF E g1 l1 Hs p)(hg:(E.fn g1).isSome=true:=by kernel_rfl):PanOG E M m N o F H p F (a96 σ 0 H):=by
 subst ha;subst hl;subst hH;exact PanOG.call cV hf hg hσ hc h rfl
end
end Go.Ax
/- AxKp: regions of plain operations leave the deferred calls alone. -/
namespace Go.Ax
def c71(P:Program)(o:Oper):Prop:=(∀c,o.op≠ .defer c)∧∀ρ w,(∃v w',(execOp ρ o).run P w = .ok (.value v) w')∨(∃w',(execOp ρ o).run P w = .ok .skip w')∨(∃x w',(execOp ρ o).run P w = .halt x w')
theorem b6z{P:Program}{o:Oper}(hd:∀c,o.op≠ .defer c)(h:∀ρ,∃s:Sem Value,execOp ρ o=(do pure (.value (←s)))):c71 P o:=by
 refine⟨hd,λρ w=>?_⟩;obtain⟨s,hs⟩:=h ρ;rw[hs];simp only[bind_pure_comp,Sem.run_map];cases h:s.run P w with
 |ok v w'=>exact .inl ⟨v,w',rfl⟩
 |halt x w'=>exact .inr (.inr ⟨x,w',rfl⟩)
theorem d1u{P:Program}{o:Oper}(hd:∀c,o.op≠ .defer c)(h:∀ρ,∃s:Sem Unit,execOp ρ o=(do s;pure .skip)):c71 P o:=by
 refine⟨hd,λρ w=>?_⟩;obtain⟨s,hs⟩:=h ρ;rw[hs];simp only[Sem.run_bind,Sem.run_pure];cases h:s.run P w with
 |ok v w'=>exact .inr (.inl ⟨w',rfl⟩)
 |halt x w'=>exact .inr (.inr ⟨x,w',rfl⟩)
def b0x:Op→Bool
 |.move _|.assign _|.build ..|.load ..|.store ..=>true
 |_=>false
theorem c82{P:Program}{o:Oper}(h:b0x o.op=true):c71 P o:=by
 have hd:∀c,o.op≠ .defer c:=by intro c e;rw[e]at h;cases h
 cases ho:o.op<;>rw[ho]at h<;>first|(cases h;done)|skip
 ·exact b6z hd λρ=>⟨pure _,by unfold execOp;rw[ho];rfl⟩
 ·exact b6z hd λρ=>⟨pure _,by unfold execOp;rw[ho];rfl⟩
 ·exact b6z hd λρ=>⟨_,by unfold execOp;rw[ho]⟩
 ·exact b6z hd λρ=>⟨_,by unfold execOp;rw[ho]⟩
 ·exact d1u hd λρ=>⟨_,by unfold execOp;rw[ho]⟩
theorem c4s(a:Act)(d:Option Tmp)(v:Value):(a.put d v).defers=a.defers:=by cases d<;>rfl
theorem a60{ro:Option Nat}{P:Program}{au:Array Oper}{Q Q':Exit→Act→World→Prop}{ds:List Deferred}(dc:∀o∈au.toList,b0x o.op=true)(hQ:∀e a w,Q e a w→a.defers=ds→Q' e a w) :
 ∀(l:List Nat) (a:Act) (w:World),a.defers=ds→wpOpsIn (wf ro) 0 P au Q l a w→wpOpsIn (wf ro) 0 P au Q' l a w
 | [],a,w,hd,h=>hQ _ _ _ h hd
 |i::ag,a,w,hd,h=>by
  unfold wpOpsIn at h⊢;split at h
  ·exact a60 dc hQ ag a w hd h
  ·rename_i o ho;have hp:=c82 (P:=P) (dc o (by
    have:=Array.mem_of_getElem? ho;simpa using this))
   split at h
   ·rename_i hw;rw[e3g hw];refine⟨h.1,?_⟩;have h2:=h.2;rw[b6c,Oper.semAt_eq _ _ _ hp.1]at h2⊢;rcases hp.2 a.eval w with ⟨v,w',e⟩|⟨w',e⟩|⟨x,w',e⟩
    ·rw[e]at h2⊢;exact a60 dc hQ ag _ _ (by rw[c4s];exact hd) h2
    ·rw[e]at h2⊢;exact a60 dc hQ ag _ _ (by rw[c4s];exact hd) h2
    ·rw[e]at h2⊢;cases x<;>first|exact h2.elim|exact hQ _ _ _ h2 hd
   ·rename_i hw;rw[e2i hw];exact⟨h.1,a60 dc hQ ag _ _ (by rw[c4s];exact hd) h.2⟩
theorem b6x{E:Env}(ok:EnvOk E)(al:DrOk E){M:List Fact}(hM:∀y∈M,b0f E y){ro:Option Nat}{e:Entry}{N id:Nat}{au:Array Oper}{F F1:Frm}{H H1:a08}{log:List LogE}{Q:Exit→Act→World→Prop}
 (dc:∀o∈au.toList,b0x o.op=true)(hr:a7h E false N (sem E M) au.toList au.toList [] F H=some (F1,H1,log)){I:Nat→Prop}{ρ:PMap}{a:Act}{w:World}(ae:Now E e N F H I ρ a w)
 (hQ:∀I ρ a' w',Now E e N F1 H1 I ρ a' w'→a'.defers=a.defers→Q .normal a' w'):(Code.region id au false).wpIn (wf ro) 0 E.P Q a w:=by
 refine wpIn_region ?_;have hl:List.range au.size=List.range' 0 au.toList.length++[]:=by rw[List.range_eq_range',e2h,e3i]
 rw[hl];refine a60 (Q:=λex a w=>ex = .normal∧∃I ρ,Now E e N F1 H1 I ρ a w) dc ?_ _ a w rfl (b0r ok (sem_ok ok al hM) (k:=λF H=>some (F,H)) (r:=(F1,H1)) (tl:=[]) ?_ au.toList 0 [] F H I ρ a w ⟨[],by simp⟩ ae (by rw[a6r,hr];rfl))
 ·rintro ex a' w' ⟨rfl,I,ρ,hn⟩ hd
  exact hQ I ρ a' w' hn hd
 ·intro F2 H2 I2 ρ2 a2 w2 fG hk;cases hk;exact⟨rfl,_,_,fG⟩
end Go.Ax
/- AxDfr: a function that defers a closure, laid once, before the code that may panic. -/
namespace Go.Ax
theorem a6x{P:Program}{n:Nat}{F:Fence}{fn:Func}{tmps:Array Value}{R:Ending→World→Prop}{u:FrameMode}(hu:u≠ .run){ds:List Deferred}:∀(rs:List Nat) (w:World),rs.Nodup→(∀r∈rs,w.heap[r]?=some (.deferred (some [])))→
 LeavesInM F n P fn tmps R ds u (a1y rs w)→LeavesInM F n P fn tmps R (rs.map (λr=>(⟨.collected r,#[]⟩:Deferred))++ds) u w
 | [],w,_,_,h=>by simpa[a1y]using h
 |r::rs,w,dl,hr,h=>by simp only[e2b,b82,LeavesInM];refine⟨hu,.inl ⟨r,w.putObj r (.deferred none),rfl,run_takeDeferred (hr r (by simp)),?_⟩⟩;have dl:=e66.1 dl;refine a6x hu rs _ dl.2 (λq hq=>?_) h;have aK:q≠r:=λe=>dl.1 (by rw[←e];exact hq);rw[World.putObj_heap_other aK];exact hr q (by simp[hq])
def gq(E:Env)(e:Entry)(N:Nat)(b:Code)(ro:Option Nat)(Q:Exit→Act→World→Prop):b4z:=λex F H=>match ex with
 |.normal=>∀I ρ a w,Now E e N F H I ρ a w→b.wpIn (wf ro) 0 E.P Q a w
 |_=>False
section
variable {E:Env}(ok:EnvOk E)(al:DrOk E){M:List Fact}(hM:∀y∈M,b0f E y){ro:Option Nat}{e:Entry}{N:Nat}
include ok al hM
theorem gos{m:Nat}{g:FuncId}{cur:Nat}{a b:Code}{F:Frm}{H:a08}{Q:Exit→Act→World→Prop}(he:e.m=m)(hd:a1p false (.seq a b)=true)(bv:RFOk E g N (E.keep g) ro cur (.seq a b))
 (h:Wp (cx E M m N g cur) a F H (gq E e N b ro Q)){I:Nat→Prop}{ρ:PMap}{dG:Act}{w:World}(ae:Now E e N F H I ρ dG w):(Code.seq a b).wpIn (wf ro) 0 E.P Q dG w:=by
 simp only[a1p,b46]at hd;obtain⟨ex,F',H1,h1,h2⟩:=b6b _ h;cases ex with
 |exit _=>exact h2.elim
 |ret=>exact h2.elim
 |normal=>obtain⟨n0,kv⟩:=h1;have hr:=kv n0 (e2c _) (AExit×Frm×a08) (λe F H=>some (e,F,H));subst he;refine wpIn_seq (a5j ok (sem_ok ok al hM) a hd.1 bv.seq1 ?_ ae hr);intro y F2 H2 I ρ dG w hn hk;cases hk;exact h2 _ _ _ _ hn
omit ok al hM in
theorem d4g{b:Code}{F:Frm}{H:a08}{Q:Exit→Act→World→Prop}(h:∀I ρ a w,Now E e N F H I ρ a w→b.wpIn (wf ro) 0 E.P Q a w):gq E e N b ro Q .normal F H:=h
theorem c62{id:Nat}{o1 o2:Oper}{d:Nat}{g:FuncId}{iF:Array Operand}{fB:Array TypeId}(h1:o1.op = .makeFunc (.func g) #[] iF)(jC:o1.dst=some d)(jB:o1.guard=none)(h2:o2.op = .defer ⟨.value (.tmp d),#[],fB⟩)(qx:o2.dst=none)(jA:o2.guard=none)
 (tM:a5z N (some d)=true){F:Frm}{H:a08}{Q:Exit→Act→World→Prop}{I:Nat→Prop}{ρ:PMap}{a:Act}{w:World}(ae:Now E e N F H I ρ a w)
 (hQ:∀I1 ρ1 a1 w1 cs,Now E e N ((d,.func (.func g) [] (iF.toList.map (opv E F)))::F) H I1 ρ1 a1 w1→VRels I1 w1 ρ1 (iF.toList.map (opv E F)) cs→Q .normal { a1 with defers:=⟨.fn (.func g) cs.toArray,#[]⟩::a1.defers } w1) :
 (Code.region id #[o1,o2] false).wpIn (wf none) 0 E.P Q a w:=by
 refine wpIn_region ?_;show wpOpsIn (wf none) 0 E.P #[o1,o2] Q [0,1] a w;refine a61 (i:=0) (o:=o1) rfl (by simp[Region.wanted,jB]) ?_;have hs:a1c E false (sem E M) F H o1.op=some (.func (.func g) [] (iF.toList.map (opv E F)),H,⟨[],[]⟩):=by rw[h1,c05];rfl
 refine b2t ok (sem_ok ok al hM) ae hs (by rw[jC];exact tM) ?_;intro I1 ρ1 a1 w1 aY;rw[jC]at aY;have aY:Now E e N ((d,.func (.func g) [] (iF.toList.map (opv E F)))::F) H I1 ρ1 a1 w1:=aY;have hv:VRel I1 w1 ρ1 (.func (.func g) [] (iF.toList.map (opv E F))) (a1.eval (.tmp d)):=by
  have h0:=aY.frm.2 d;have e0:a2h ((d,AV.func (.func g) [] (iF.toList.map (opv E F)))::F) d = .func (.func g) [] (iF.toList.map (opv E F)):=by simp[a2h]
  rw[e0]at h0;exact h0
 simp only[VRel,VRels]at hv;obtain⟨fs,cs,pN,gJ,dp⟩:=hv;have gJ:fs = #[]:=by apply e6c;simpa using gJ
 subst gJ;show wpOpsIn (wf none) 0 E.P #[o1,o2] Q [1] a1 w1;unfold wpOpsIn;have ho:(#[o1,o2]:Array Oper)[1]?=some o2:=rfl;simp only[ho];rw[e3g (by simp[Region.wanted,jA])];refine⟨λf _=>c7b none f,?_⟩;have ac:(o2.semAt (wf none).round a1.eval).run E.P w1 = .ok (.defer ⟨.fn (.func g) cs,#[]⟩) w1:=by rw[b6c,Oper.semAt_none];unfold execOp;rw[h2];simp[resolve,pN,Deferred.ofValue]
 rw[ac];have:=hQ I1 ρ1 a1 w1 cs.toList aY dp;simpa[Oper.uponIn,qx,Act.put,wpOpsIn]using this
end
theorem b26{G:GTab (List AV)}{I I0 K:Nat→Prop}{ρ:PMap}{h:FHeap}{w0 w:World}{rs:List Nat}(hx:Ext I0 K w0 w)(hI:∀c,I0 c∨K c→c<w0.heap.size)(hr:HRel G I K ρ h w)(q:∀r∈rs,I r∧w0.heap.size≤r∧w.heap[r]?=some (.deferred (some []))) :
 HRel G I K ρ h (a1y rs w)∧Ext I0 K w0 (a1y rs w):=by
 obtain⟨s1,s2,s3,s4,s5⟩:=a5o rs w;refine⟨HRel.shut hr (S:=(·∈rs)) (λc hc=>⟨(q c hc).1,_,(q c hc).2.2⟩) s1 s5,by rw[s3];exact hx.os,by rw[s2];exact hx.tape,by rw[s4];exact hx.output,by rw[s1];exact hx.size,λc hc=>?_⟩;have aq:=hI c hc;rw[s5 c (λhm=>by have h:w0.heap.size≤c:=(q c hm).2.1;omega)];exact hx.keep c hc
end Go.Ax
/- AxPcl: loops and calls of code that ends in a panic, over states and over the whole memory. -/
namespace Go.Ax
section
variable {E:Env}{M:List Fact}{m N:Nat}{g:FuncId}{cur:Nat}{F F1 F':Frm}{H H1 H':a08}{p:Value}{a b:Code}
theorem c0f{keep:List Nat}(hk:E.keep g cur=keep){σ:Type}(Fs:σ→Frm)(Hs:σ→a08)(dK:σ→Nat)(Inv:σ→Prop)(s0:σ)(h0:gcD m keep F H=some (Fs s0,Hs s0))(hi:Inv s0)
 (h:∀s,Inv s→PanG (cx E M m N g cur) b (Fs s) (Hs s) p F' H'∨Wp (cx E M m N g cur) b (Fs s) (Hs s) (lp m keep Fs Hs dK Inv (dK s) (λ_ _ _=>False)))(hx:a8u b=none:=by rfl):PanG (cx E M m N g cur) (.loop b) F H p F' H':=by
 refine PanG.loop (x:=cx E M m N g cur) (λn F1 H1=>∃s,F1=Fs s∧H1=Hs s∧n=dK s∧Inv s) (dK s0) ?_ hx ?_
 ·show ∃F1 H1,gcD m (E.keep g cur) F H=some (F1,H1)∧_;rw[hk];exact⟨_,_,h0,s0,rfl,rfl,rfl,hi⟩
 ·rintro n F1 H1 ⟨s,rfl,rfl,rfl,hs⟩
  rcases h s hs with h|h
  ·exact .inl h
  ·right;obtain⟨e,F2,H2,kv,hl⟩:=b6b _ h;cases e with
   |normal=>obtain⟨s',g1,g2,g3⟩:=hl;refine⟨F2,H2,kv,Fs s',Hs s',dK s',?_,g2,s',rfl,rfl,rfl,g3⟩;show gcD m (E.keep g cur) F2 H2=_;rw[hk];exact g1
   |exit _=>exact hl.elim
   |ret=>exact hl.elim
theorem a52{i:Nat}(h:PanG (cx E M m N g i) b F H p F' H'):PanG (cx E M m N g cur) (.block i b) F H p F' H':=PanG.block (x:=cx E M m N g cur) h
theorem c4u{o:Oper}{f:Operand}{args:Array Operand}{fB:Array TypeId}(cV:o.op = .call ⟨.value f,args,fB⟩){g1:FuncId}{fs cs l:List AV}(hf:opv E F f = .func (.func g1) fs cs)(ha:fs++args.toList.map (opv E F)++cs=l)
 (h:PanF E g1 l H p)(hg:(E.fn g1).isSome=true:=by kernel_rfl):d8a E M m N o F H p (a7g H):=by
 subst ha;exact PanOG.noF (F':=F) (PanOG.callW cV hf hg h)
theorem b6y{o:Oper}{f:Operand}{args:Array Operand}{fB:Array TypeId}(cV:o.op = .call ⟨.value f,args,fB⟩){g1:FuncId}{fs cs l l1:List AV}(hf:opv E F f = .func (.func g1) fs cs)(ha:fs++args.toList.map (opv E F)++cs=l)(σ:List Nat)
 (hc:(a25 σ&&σ.all (λb=>Nat.blt b H.length))=true)(hl:l.map (ren (a2w σ))=l1){Hs:a08}(hH:a0q H σ (a2w σ)=Hs)(h:PanF E g1 l1 Hs p)(hK:a96 σ 0 H=H')(hg:(E.fn g1).isSome=true:=by kernel_rfl):PanOG E M m N o F H p F H':=by
 subst ha;subst hl;subst hH;exact PanOG.callS cV hf hg σ hc h hK
theorem PanOG.two{o:Oper}{s1 s2:Nat}{v1 v2:AV}(h:PanOG E M m N o F H p F1 H1)(h1:a2h F1 s1=v1)(h2:a2h F1 s2=v2):PanOG E M m N o F H p [(s1,v1),(s2,v2)] H1:=by
 intro ok al hM ro e K Q he hQ I ρ a w ae;refine h ok al hM he (λI ρ a w hn=>hQ I ρ a w { hn with frm:=⟨hn.frm.1,λs=>?_⟩ }) ae;simp only[a2h];by_cases e1:s=s1
 ·subst e1;rw[Nat.beq_refl,e3e,←h1];exact hn.frm.2 s
 have b1:Nat.beq s1 s=false:=by rw[←e5q,e5a];exact λh=>e1 h.symm
 rw[b1,e3p];by_cases e2:s=s2
 ·subst e2;rw[Nat.beq_refl,e3e,←h2];exact hn.frm.2 s
 have b2:Nat.beq s2 s=false:=by rw[←e5q,e5a];exact λh=>e2 h.symm
 rw[b2,e3p];simp[VRel]
end
end Go.Ax
/- AxLay: a call that panics, over a memory laid otherwise, or told in part. -/
namespace Go.Ax
section
variable {E:Env}{g:FuncId}{args:List AV}{p:Value}{H H':a08}
theorem PanF.fewer(h:PanF E g args H' p)(hl:H'.length=H.length)(hf:∀b o,a03 H' b=some o→a03 H b=some o):PanF E g args H p:=by
 intro I K ρ w ah rel hn ha;refine XOf.mono (h I K ρ w ah (rel.fewer hf) (by rw[hl];exact hn) ha) ?_
 rintro en w' ⟨e,I',ρ',hr⟩
 refine⟨e,I',ρ',?_⟩;have e1:a7g H'=a7g H:=by unfold a7g;rw[hl]
 rw[hl,e1]at hr;exact hr
theorem PanF.lay(τ:List Nat)(dl:a25 τ=true)(aq:(τ.all λb=>Nat.blt b H'.length)=true)(hH:∀b' o',a03 H' b'=some o'→∃b o,a03 H b=some o∧τ[b]?=some b'∧o'=a0t (λb=>τ[b]?) o)
 (h:PanF E g (args.map (ren λb=>τ[b]?)) H' p):PanF E g args H p:=by
 have dl:=a54 dl;simp only[e3n,e3f]at aq;intro I K ρ w ah rel hn ha;have hπ:∀b b' m,τ[b]?=some b'→ρ b=some m→(λb'=>(τ.idxOf? b').bind ρ) b'=some m:=λb b' m h1 h2=>by show(τ.idxOf? b').bind ρ=_;rw[a7w dl h1];exact h2
 have mi:HRel E.G I K (λb'=>(τ.idxOf? b').bind ρ) (a03 H') w:=rel.rename (π:=λb=>τ[b]?) hπ hH λb' m hb=>by obtain⟨b,_,h2⟩:=Option.bind_eq_some_iff.1 hb;exact rel.dom b m h2
 have iT:NRel (λb'=>(τ.idxOf? b').bind ρ) H'.length:=λb' hb=>by
  cases hi:τ.idxOf? b' with
  |none=>show(τ.idxOf? b').bind ρ=none;rw[hi];rfl
  |some j=>have:=aq b' (e25 (a2t hi));omega
 have me:=VRels.ren hπ args ha;rw[a5w]at me;refine XOf.mono (h I K _ w ah mi iT me) ?_
 rintro en w' ⟨e,I1,ρ1,hr⟩
 refine⟨e,I1,λb=>if b<H.length then ρ b else none,hr.imm,λb hb=>e3g hb,hr.ext,?_,λb hb=>?_,by simp[a7g]⟩
 ·refine⟨λb o hb=>(by rw[a8m]at hb;cases hb),λb b' m m' hb=>(by rw[a8m]at hb;cases hb),λb m hb=>?_,hr.rel.imm,hr.rel.kept,hr.rel.apart,hr.rel.glob⟩;have:=hr.ext.size;split at hb
  ·have:=rel.dom b m hb;omega
  ·cases hb
 ·have:¬b<H.length:=by simp[a7g]at hb;omega
  exact e2i this
theorem PanF.junk4{x y z s x' y' z':AV}{R:a08}(hx:x'=x∨x' = .junk)(hy:y'=y∨y' = .junk)(hz:z'=z∨z' = .junk)(h:PanF E g args (some (.row 4 [[x',y',z',s]])::R) p):PanF E g args (some (.row 4 [[x,y,z,s]])::R) p:=by
 intro I K ρ w ah rel hn ha;have mi:HRel E.G I K ρ (a03 (some (.row 4 [[x',y',z',s]])::R)) w:=by
  refine⟨λb o hb=>?_,λb b' m m' h1 h2=>?_,rel.dom,rel.imm,rel.kept,rel.apart,rel.glob⟩
  ·cases b with
   |zero=>
    have ho:o = .row 4 [[x',y',z',s]]:=by have:some (AObj.row 4 [[x',y',z',s]])=some o:=hb;cases this;rfl
    subst ho;obtain⟨m,h1,h2,h3,h4⟩:=rel.live 0 (.row 4 [[x,y,z,s]]) rfl;refine⟨m,h1,h2,h3,?_⟩;simp only[ORel,VRows,VAt]at h4⊢;have jk:∀{v v':AV} {c:Value},(v'=v∨v' = .junk)→VRel I w ρ v c→VRel I w ρ v' c:=λh hv=>by
     rcases h with rfl|rfl
     ·exact hv
     ·simp[VRel]
    obtain⟨q1,q2,q3,q4⟩:=h4;refine⟨q1,q2,q3,?_⟩;obtain⟨_,⟨⟨a,a1,a2⟩,⟨b,b1,b2⟩,⟨c,c1,c2⟩,d⟩,_⟩:=q4;exact⟨rfl,⟨⟨a,a1,jk hx a2⟩,⟨b,b1,jk hy b2⟩,⟨c,c1,jk hz c2⟩,d⟩,trivial⟩
   |succ b=>exact rel.live (b+1) o hb
  ·refine rel.inj b b' m m' ?_ ?_
   ·cases b with
    |zero=>rfl
    |succ b=>exact h1
   ·cases b' with
    |zero=>rfl
    |succ b=>exact h2
 exact h I K ρ w ah mi hn ha
theorem PanG.three{x:Cx}{c:Code}{F F':Frm}{s1 s2 s3:Nat}{v1 v2 v3:AV}(h:PanG x c [(s1,v1),(s2,v2),(s3,v3)] H p F' H')(h1:a2h F s1=v1)(h2:a2h F s2=v2)(h3:a2h F s3=v3):PanG x c F H p F' H':=by
 intro ok al hM fid ro e Q he hd bv hQ I ρ a w ae;refine h ok al hM he hd bv hQ { ae with frm:=⟨ae.frm.1,λs=>?_⟩ };simp only[a2h];have nb:∀k,s≠k→Nat.beq k s=false:=λk hk=>by rw[←e5q,e5a];exact λh=>hk h.symm
 by_cases e1:s=s1
 ·subst e1;rw[Nat.beq_refl,e3e,←h1];exact ae.frm.2 s
 rw[nb _ e1,e3p];by_cases e2:s=s2
 ·subst e2;rw[Nat.beq_refl,e3e,←h2];exact ae.frm.2 s
 rw[nb _ e2,e3p];by_cases e3:s=s3
 ·subst e3;rw[Nat.beq_refl,e3e,←h3];exact ae.frm.2 s
 rw[nb _ e3,e3p];simp[VRel]
end
end Go.Ax
