/- AxPan: code that ends in a panic. -/
import Derived.Test.YtmbmjfjagololaaGreatDoorAxD
import Derived.Lib.AppendStr
set_option linter.unusedSimpArgs false
set_option linter.unusedVariables false
namespace Go.Ax
abbrev e29(p:Value):Ending:=.panicked [{ v:=p,recovered:=false }]
def b3t(H:a08):a08:=List.replicate H.length none
def b0s(σ:List Nat):Nat→a08→a08
 |_,[]=>[]
 |b,o::r=>(bif a1j σ b then none else o)::b0s σ (b+1) r
theorem b8e(σ:List Nat):∀(b:Nat) (H:a08) (i:Nat),(b0s σ b H)[i]?=(H[i]?).map λo=>bif a1j σ (b+i)then none else o
 |b,[],i=>by simp[b0s]
 |b,o::r,0=>by simp[b0s]
 |b,o::r,i+1=>by simp only[b0s,List.getElem?_cons_succ];rw[b8e σ (b+1) r i,show b+1+i=b+(i+1) by omega]
theorem a7s(σ:List Nat):∀(b:Nat) (H:a08),(b0s σ b H).length=H.length
 |b,[]=>by simp[b0s]
 |b,o::r=>by simp[b0s,a7s σ (b+1) r]
theorem b5j(H:a08)(b:Nat):a04 (b3t H) b=none:=by unfold a04 b3t;rw[List.getElem?_replicate];split<;>rfl
def PanF(E:Env)(g:FuncId)(args:List AV)(H:a08)(p:Value):Prop:=
 ∀(I K:Nat→Prop) (ρ:PMap) (w:World) (cargs:List Value),HRel E.G I K ρ (a04 H) w→NRel ρ H.length→VRels I w ρ args cargs→
  XOf E g cargs w λen w'=>en=e29 p∧∃I' ρ',Ret E I K ρ H.length w I' ρ' (b3t H) w'
theorem d2e{E:Env}{I K:Nat→Prop}{ρ:PMap}{w:World}{g:FuncId}{args:List AV}{cargs:List Value}{H:a08}{σ:List Nat}{p:Value}(_hσ:a0h H a3a (a0w args) []=σ)
 (hc:(a2a σ&&σ.all (λb=>Nat.blt b H.length))=true)(h:PanF E g (args.map (ren (a36 σ))) (a0u H σ (a36 σ)) p)(r:HRel E.G I K ρ (a04 H) w)(hn:NRel ρ H.length)(ha:VRels I w ρ args cargs) :
 XOf E g cargs w λen w'=>en=e29 p∧∃I' ρ',Ret E I K ρ H.length w I' ρ' (b0s σ 0 H) w':=by
 simp only[Bool.and_eq_true,List.all_eq_true,Nat.blt_eq]at hc;obtain⟨hnd,hlt⟩:=hc;have hnd:=a5q hnd;have h':=h I (a90 K ρ (a04 H) σ) (λj=>(σ[j]?).bind ρ) w cargs (b89 r hnd)
  (by intro j hj;simp only[a0u,List.length_map]at hj;simp[List.getElem?_eq_none hj])
  (by rw[←a7m];exact VRels.ren (λb j m hj hb=>by have:=a2z hj;simp only[this,Option.bind_some,hb]) args ha)
 refine XOf.mono h' ?_
 rintro en w' ⟨rfl,I1,ρ1,hret0⟩
 have hret:Ret E I (a90 K ρ (a04 H) σ) (λj=>(σ[j]?).bind ρ) σ.length w I1 ρ1 (b3t (a0u H σ (a36 σ))) w':=by simpa[a0u]using hret0
 have hdl:(b3t (a0u H σ (a36 σ))).length=σ.length:=by simp[b3t,a0u]
 refine⟨rfl,I1,ρ,hret.imm,λ_ _=>rfl,hret.ext.keepLess (λc hc=>.inl hc),?_,?_,?_⟩
 ·refine b2a (n:=H.length) r hnd hret (λ_ _ h=>h) ?_ (λ_ _ h=>.inl h) ?_
  ·intro j b m hj hm;simp only[a1g]at hj;rw[cond_eq_ite]at hj;split at hj
   ·rename_i hjl;have hjl:j<σ.length:=by simpa[Nat.blt_eq]using hjl
    have:=hret.map j hjl;rw[hm,hj]at this;exact this.symm
   ·rename_i hjl;have hjl:σ.length≤j:=by simpa[Nat.blt_eq]using hjl
    have:=hret.nrel j (by rw[hdl];exact hjl);rw[this]at hm;cases hm
  ·intro b o hb;left;simp only[a04]at hb;rw[b8e]at hb;simp only[Nat.zero_add]at hb;cases hx:H[b]? with
   |none=>rw[hx]at hb;simp at hb
   |some ob=>
    rw[hx]at hb;simp only[Option.map_some,Option.join_some,cond_eq_ite]at hb;split at hb
    ·cases hb
    ·rename_i hns;refine⟨λhm=>hns (a52.2 hm),?_⟩;simp only[a04,hx,Option.join_some];exact hb
 ·rw[a7s];exact hn
 ·rw[a7s];exact Nat.le_refl _
/-! ### statements -/
def PanG(x:Cx)(c:Code)(F:Frm)(H:a08)(p:Value)(F':Frm)(H':a08):Prop:=
 EnvOk x.E→DrOk x.E→(∀y∈x.M,b07 x.E y)→∀{fid:Nat} {ro:Option Nat} {e:Entry} {Q:Exit→Act→World→Prop},e.m=x.m0→a1r false c=true→RFOk x.E fid x.N x.keep ro x.cur c→
  (∀I ρ a w,Now x.E e x.N F' H' I ρ a w→Q (.panic [{ v:=p,recovered:=false }]) a w)→
  ∀{I:Nat→Prop} {ρ:PMap} {a:Act} {w:World},Now x.E e x.N F H I ρ a w→c.wpIn (wf ro) 0 x.E.P Q a w
abbrev PanC(x:Cx)(c:Code)(F:Frm)(H:a08)(p:Value)(H':a08):Prop:=PanG x c F H p [] H'
def PanOG(E:Env)(M:List Fact)(m N:Nat)(o:Oper)(F:Frm)(H:a08)(p:Value)(F':Frm)(H':a08):Prop:=
 EnvOk E→DrOk E→(∀y∈M,b07 E y)→∀{ro:Option Nat} {e:Entry} {K:Act→World→Prop} {Q:Exit→Act→World→Prop},e.m=m→
  (∀I ρ a w,Now E e N F' H' I ρ a w→Q (.panic [{ v:=p,recovered:=false }]) a w)→
  ∀{I:Nat→Prop} {ρ:PMap} {a:Act} {w:World},Now E e N F H I ρ a w→o.wpIn (wf ro) 0 E.P a w K Q
abbrev d9v(E:Env)(M:List Fact)(m N:Nat)(o:Oper)(F:Frm)(H:a08)(p:Value)(H':a08):Prop:=PanOG E M m N o F H p [] H'
theorem Now.noF{E:Env}{e:Entry}{N:Nat}{F:Frm}{H:a08}{I:Nat→Prop}{ρ:PMap}{a:Act}{w:World}(h:Now E e N F H I ρ a w):Now E e N [] H I ρ a w:={ h with frm:=⟨h.frm.1,λs=>by simp[a2k,VRel]⟩ }
section
variable {x:Cx}{F F1 F':Frm}{H H1 H':a08}{p:Value}{a b:Code}
theorem PanG.seqL(h:PanG x a F H p F' H'):PanG x (.seq a b) F H p F' H':=by intro ok hdr hM fid ro e Q he hd hrf hQ I ρ act w hnow;simp only[a1r,Bool.and_eq_true]at hd;refine wpIn_seq (h ok hdr hM he hd.1 hrf.seq1 ?_ hnow);exact λI ρ a w hn=>hQ I ρ a w hn
theorem PanG.seqR(h1:Ev x a F H (.normal,F1,H1))(h2:PanG x b F1 H1 p F' H'):PanG x (.seq a b) F H p F' H':=by intro ok hdr hM fid ro e Q he hd hrf hQ I ρ act w hnow;simp only[a1r,Bool.and_eq_true]at hd;obtain⟨n0,hev⟩:=h1;have hr:=hev n0 (Nat.le_refl _) (AExit×Frm×a08) (λe F H=>some (e,F,H));rw[←he]at hr;refine wpIn_seq (a5g ok (sem_ok ok hdr hM) a hd.1 hrf.seq1 ?_ hnow hr);intro y F2 H2 I ρ act w hn hk;cases hk;exact h2 ok hdr hM he hd.2 hrf.seq2 hQ hn
theorem PanG.condT{c:Operand}(hc:opv x.E F c = .bool true)(h:PanG x a F H p F' H'):PanG x (.cond c a b) F H p F' H':=by intro ok hdr hM fid ro e Q he hd hrf hQ I ρ act w hnow;simp only[a1r,Bool.and_eq_true]at hd;have hv:=a7p hnow.rel hnow.frm c;rw[hc]at hv;simp only[VRel]at hv;exact wpIn_cond_true hv (h ok hdr hM he hd.1 hrf.cond1 hQ hnow)
theorem PanG.block{id:Nat}(h:PanG { x with cur:=id } b F H p F' H'):PanG x (.block id b) F H p F' H':=by intro ok hdr hM fid ro e Q he hd hrf hQ I ρ act w hnow;refine wpIn_block (h ok hdr hM he hd hrf.block ?_ hnow);exact λI ρ a w hn=>hQ I ρ a w hn
theorem PanG.loop(J:Nat→Frm→a08→Prop)(n0:Nat)(h0:∃F1 H1,gcD x.m0 (x.keep x.cur) F H=some (F1,H1)∧J n0 F1 H1)(hx:a9l b=none)
 (h:∀n F1 H1,J n F1 H1→PanG x b F1 H1 p F' H'∨∃F2 H2,Ev x b F1 H1 (.normal,F2,H2)∧∃F3 H3 n',gcD x.m0 (x.keep x.cur) F2 H2=some (F3,H3)∧n'<n∧J n' F3 H3):PanG x (.loop b) F H p F' H':=by
 intro ok hdr hM fid ro e Q he hd hrf hQ I ρ act w hnow;unfold a1r at hd;rw[hx]at hd;have hd:a1r false b=true:=hd;refine b2f (n:=n0+1) (λn a w=>∃F H I ρ,Now x.E e x.N F H I ρ a w∧∃n' F1 H1,n'<n∧gcD x.m0 (x.keep x.cur) F H=some (F1,H1)∧J n' F1 H1) ?_ ?_ ?_
 ·rintro n act w ⟨F,H,I,ρ,hnow,n',F1,H1,hn,hg,hJ⟩
  have hg':=hg;unfold gcD at hg';dsimp only at hg';rw[cond_eq_ite]at hg';split at hg'
  case isFalse=>cases hg'
  rename_i hc;simp only[Bool.and_eq_true,List.all_eq_true,Nat.ble_eq]at hc;cases hg';rw[←he]at hc hJ;obtain⟨ρ',hn'⟩:=(hnow.keep (x.keep x.cur)).gc (a5q hc.1.1) hc.1.2;rcases h _ _ _ hJ with hp|⟨F2,H2,hev,F3,H3,n'',hg3,hlt,hJ3⟩
  ·refine hp ok hdr hM he hd hrf.loop ?_ hn';exact λI ρ a w hn=>hQ I ρ a w hn
  ·obtain⟨l0,hev⟩:=hev;have hr:=hev l0 (Nat.le_refl _) (AExit×Frm×a08) (λe F H=>some (e,F,H));rw[←he]at hr;refine a5g ok (sem_ok ok hdr hM) b hd hrf.loop ?_ hn' hr;intro y F4 H4 I4 ρ4 act4 w4 hn4 hk;cases hk;exact⟨_,_,_,_,hn4,n'',F3,H3,by omega,hg3,hJ3⟩
 ·rintro act w ⟨_,_,_,_,_,n',_,_,hn,_⟩
  omega
 ·obtain⟨F1,H1,hg,hJ⟩:=h0;exact⟨_,_,_,_,hnow,n0,F1,H1,by omega,hg,hJ⟩
end
section
variable {E:Env}{M:List Fact}{m N:Nat}{F F1 F':Frm}{H H1 H':a08}{p:Value}{o:Oper}
theorem PanOG.call{f:Operand}{args:Array Operand}{ats:Array TypeId}(hop:o.op = .call ⟨.value f,args,ats⟩){g:FuncId}{fs cs:List AV}(hf:opv E F f = .func (.func g) fs cs)(hg:(E.fn g).isSome=true){σ:List Nat}
 (hσ:a0h H a3a (a0w (fs++args.toList.map (opv E F)++cs)) []=σ)(hc:(a2a σ&&σ.all (λb=>Nat.blt b H.length))=true)
 (h:PanF E g ((fs++args.toList.map (opv E F)++cs).map (ren (a36 σ))) (a0u H σ (a36 σ)) p)(hH:b0s σ 0 H=H'):PanOG E M m N o F H p F H':=by
 intro ok hdr hM ro e K Q he hQ I ρ act w hnow;subst hH;have hv:=a7p hnow.rel hnow.frm f;rw[hf]at hv;simp only[VRel]at hv;obtain⟨fs',cs',hfe,hfs,hcs⟩:=hv;have hargs:VRels I w ρ (fs++args.toList.map (opv E F)++cs) (fs'++args.map act.eval++cs').toList:=by simp only[Array.toList_append,Array.toList_map];exact VRels.append (VRels.append hfs (a40 (a7p hnow.rel hnow.frm) args.toList)) hcs
 refine a5t (by rw[hop];intro c hc;cases hc) ?_;rw[a7y hop hfe,a2b ok hg];have hcl:=d2e hσ hc h hnow.rel hnow.nrel hargs;obtain⟨i,hi⟩:=Option.isSome_iff_exists.1 hg;rw[a3m (b4k ok hi)]at hcl;have harr:(fs'++args.map act.eval++cs').toList.toArray=fs'++args.map act.eval++cs':=by apply Array.ext';simp
 rw[harr]at hcl;refine a63 (Calls.mono hcl ?_)
 rintro en w' ⟨rfl,I',ρ',hret⟩
 have hn:=hnow.call (d:=none) (v:=.junk) (c:=.nilFunc) hret rfl (by simp[VRel]);exact hQ I' ρ' act w' hn
theorem PanOG.halt{f:Operand}{t:TypeId}{v:AV}{c0:Value}(hv:opv E F f = .iface t v)(hc:∀I w ρ c,VRel I w ρ v c→c=c0)(hp:p = .iface t c0)
 (hr:∀{a:Act} {w:World},a.eval f = .iface t c0→(execOp a.eval o).run E.P w = .halt (.panic (.iface t c0)) w)(hd:∀c,o.op≠ .defer c):PanOG E M m N o F H p F H:=by
 intro ok hdr hM ro e K Q he hQ I ρ act w hnow;have h:=a7p hnow.rel hnow.frm f;rw[hv]at h;simp only[VRel]at h;obtain⟨x',hx,hvx⟩:=h;obtain rfl:=hc _ _ _ _ hvx;refine a5t hd ?_;rw[hr hx,Oper.uponIn_panic,←hp];exact hQ I ρ act w hnow
end
theorem b0i{E:Env}(ok:EnvOk E){ro:Option Nat}{call:FuncId→List AV→a08→Option (AV×a08)}(hcall:a3f E call){e:Entry}{N:Nat}{ops:Array Oper}{R:Type}{k:Frm→a08→Option R}{r:R}
 {Q:Exit→Act→World→Prop}{tl:List Nat}(hQ:∀F H I ρ a w,Now E e N F H I ρ a w→k F H=some r→wpOpsIn (wf ro) 0 E.P ops Q tl a w) :
 ∀(rest:List Oper) (s:Nat) (log:List LogE) (F:Frm) (H:a08) (I:Nat→Prop) (ρ:PMap) (a:Act) (w:World),(∃post,ops.toList.drop s=rest++post)→Now E e N F H I ρ a w→
  a26 E false N call ops.toList rest log F H k=some r→wpOpsIn (wf ro) 0 E.P ops Q (List.range' s rest.length++tl) a w
 | [],s,log,F,H,I,ρ,a,w,_,hnow,hrun=>by simp only[a26,Bool.not_false,Bool.true_or,cond_true]at hrun;simp only[List.length_nil,List.range'_zero,List.nil_append];exact hQ F H I ρ a w hnow hrun
 |o::rest,s,log,F,H,I,ρ,a,w,⟨post,hrest⟩,hnow,hrun=>by
  have ho:ops[s]?=some o:=by
   have:(ops.toList.drop s)[0]?=some o:=by rw[hrest];rfl
   rw[List.getElem?_drop]at this;simpa using this
  have hrest':ops.toList.drop (s+1)=rest++post:=by
   have:(ops.toList.drop s).drop 1=rest++post:=by rw[hrest];rfl
   rw[List.drop_drop]at this;exact this
  rw[List.length_cons,List.range'_succ,List.cons_append];unfold a26 at hrun;rw[cond_eq_ite]at hrun;split at hrun
  case isFalse=>cases hrun
  rename_i hd;have ih:=λlog F H I ρ a w hnow hrun=>b0i (ro:=ro) ok hcall hQ rest (s+1) log F H I ρ a w ⟨post,hrest'⟩ hnow hrun;have exec:∀F0,Now E e N F0 H I ρ a w→(match a1c E false call F0 H o.op with
   |some (v,H',l)=>a26 E false N call ops.toList rest (l::log) (a3k F0 o.dst v) H' k
   |none=>none)=some r→Region.wanted o (yielded ops a.tmps)=true→wpOpsIn (wf ro) 0 E.P ops Q (s::(List.range' (s+1) rest.length++tl)) a w:=by
   intro F0 hn0 hr hw;split at hr
   case h_2=>cases hr
   rename_i v H' l hs;exact a60 ho hw (b2k ok hcall hn0 hs hd (λI' ρ' a' w' hn'=>ih _ _ _ I' ρ' a' w' hn' hr))
  have skip:∀F0 log',Now E e N F0 H I ρ a w→a26 E false N call ops.toList rest log' (a3k F0 o.dst (.tuple [])) H k=some r→Region.wanted o (yielded ops a.tmps)=false→
   wpOpsIn (wf ro) 0 E.P ops Q (s::(List.range' (s+1) rest.length++tl)) a w:=by
   intro F0 log' hn0 hr hw;exact b4v ho hw (ih _ _ _ I ρ _ w (hn0.skip hd) hr)
  split at hrun
  ·rename_i hg;exact exec F hnow hrun (by simp[Region.wanted,hg])
  ·rename_i j want hg;split at hrun
   case h_1=>cases hrun
   rename_i d hgs;obtain⟨hy1,hy2⟩:=b4u hnow hgs;split at hrun
   ·rename_i b hb;have hyb:=hy1 b hb;have hvb:=hnow.frm.2 d;rw[hb]at hvb;have hw:Region.wanted o (yielded ops a.tmps)=(b==want):=by simp[Region.wanted,hg,hyb]
    cases b
    ·simp only[cond_false]at hrun;have hn0:=hnow.refine (d:=d) (v:=.bool false) hvb;cases want
     ·simp only[cond_false]at hrun;exact exec _ hn0 hrun (by rw[hw];rfl)
     ·simp only[cond_true]at hrun;exact skip _ _ hn0 hrun (by rw[hw];rfl)
    ·simp only[cond_true]at hrun;have hn0:=hnow.refine (d:=d) (v:=.bool true) hvb;cases want
     ·simp only[cond_false]at hrun;exact skip _ _ hn0 hrun (by rw[hw];rfl)
     ·simp only[cond_true]at hrun;exact exec _ hn0 hrun (by rw[hw];rfl)
   ·rename_i hb;have hyb:=hy2 hb;exact skip F _ hnow hrun (by simp[Region.wanted,hg,hyb])
   ·cases hrun
theorem PanG.region{E:Env}{M:List Fact}{m N cur:Nat}{keep:Nat→List Nat}{id:Nat}{ops:Array Oper}{F F1 F':Frm}{H H1 H':a08}{p:Value}{log:List LogE}(s:Nat)(hr:a8h E false N (sem E M) ops.toList (ops.toList.take s) [] F H=some (F1,H1,log))
 {o:Oper}(ho:ops.toList[s]?=some o)(hg:o.guard=none)(h:PanOG E M m N o F1 H1 p F' H'):PanG ⟨E,M,m,N,keep,cur⟩ (.region id ops false) F H p F' H':=by
 intro ok hdr hM fid ro e Q he hd hrf hQ I ρ act w hnow;have he:e.m=m:=he;have ho':ops[s]?=some o:=by simpa using ho
 have hs:s<ops.size:=(Array.getElem?_eq_some_iff.1 ho').1;refine wpIn_region ?_;have hrange:List.range ops.size=List.range' 0 (ops.toList.take s).length++(s::List.range' (s+1) (ops.size-s-1)):=by rw[List.range_eq_range',List.length_take,Array.length_toList,Nat.min_eq_left (by omega),←List.range'_succ,show ops.size-s-1+1=ops.size-s by omega];have:=List.range'_append (s:=0) (m:=s) (n:=ops.size-s) (step:=1);rw[show 0+1*s=s by omega]at this;rw[this];congr 1;omega
 rw[hrange];refine b0i ok (sem_ok ok hdr hM) (k:=λF H=>some (F,H)) (r:=(F1,H1)) ?_ (ops.toList.take s) 0 [] F H I ρ act w ⟨ops.toList.drop s,by simp⟩ hnow ?_
 ·intro F2 H2 I2 ρ2 a2 w2 hn2 hk;cases hk;exact a60 ho' (by simp[Region.wanted,hg]) (h ok hdr hM he hQ hn2)
 ·rw[a8p,hr];rfl
theorem PanOG.noF{E:Env}{M:List Fact}{m N:Nat}{F F':Frm}{H H':a08}{p:Value}{o:Oper}(h:PanOG E M m N o F H p F' H'):d9v E M m N o F H p H':=λok hdr hM _ _ _ _ he hQ _ _ _ _ hnow=>h ok hdr hM he (λI ρ a w hn=>hQ I ρ a w hn.noF) hnow
theorem Now.dead{E:Env}{e:Entry}{N:Nat}{F:Frm}{H:a08}{I:Nat→Prop}{ρ:PMap}{a:Act}{w:World}(h:Now E e N F H I ρ a w):∃ρ',Now E e N [] (List.replicate e.m none) I ρ' a w:=by
 have hd:∀b,a04 (List.replicate e.m (none:Option AObj)) b=none:=by intro b;unfold a04;rw[List.getElem?_replicate];split<;>rfl
 refine⟨λb=>if b<e.m then ρ b else none,h.imm,λb hb=>by rw[if_pos hb];exact h.map b hb,h.ext,⟨λb o hb=>(by rw[hd]at hb;cases hb),λb b' m m' hb=>(by rw[hd]at hb;cases hb),λb m hb=>?_,h.rel.imm,h.rel.kept,h.rel.apart,h.rel.glob⟩,λb hb=>?_,⟨h.frm.1,λs=>by simp[a2k,VRel]⟩,by simp,h.marks⟩
 ·split at hb
  ·exact h.rel.dom b m hb
  ·cases hb
 ·rw[List.length_replicate]at hb;exact if_neg (by omega)
theorem PanC.dead{x:Cx}{c:Code}{F:Frm}{H H':a08}{p:Value}(h:PanC x c F H p H'):PanC x c F H p (List.replicate x.m0 none):=by intro ok hdr hM fid ro e Q he hd hrf hQ I ρ act w hnow;refine h ok hdr hM he hd hrf ?_ hnow;intro I ρ a w hn;obtain⟨ρ',hn'⟩:=hn.dead;rw[he]at hn';exact hQ I ρ' a w hn'
/-! ### functions -/
theorem a9o{P:Program}{n:Nat}{F:Fence}{fn:Func}{tmps:Array Value}{R:Ending→World→Prop}{ch:List PanicEntry}:∀(rs:List Nat) (w:World),rs.Nodup→(∀r∈rs,w.heap[r]?=some (.deferred (some [])))→
 R (.panicked ch) (a1y rs w)→LeavesInM F n P fn tmps R (rs.map (λr=>(⟨.collected r,#[]⟩:Deferred))) (.panicking ch) w
 | [],w,_,_,h=>by simpa[LeavesInM,LeavesIn,a1y]using h
 |r::rs,w,hnd,hr,h=>by simp only[List.map_cons,LeavesInM];refine⟨by simp,.inl ⟨r,w.putObj r (.deferred none),rfl,run_takeDeferred (hr r (by simp)),?_⟩⟩;have hnd:=List.nodup_cons.1 hnd;refine a9o rs _ hnd.2 (λq hq=>?_) h;have hne:q≠r:=λe=>hnd.1 (by rw[←e];exact hq);rw[World.putObj_heap_other hne];exact hr q (by simp[hq])
theorem PanF.of{E:Env}(ok:EnvOk E)(hdr:DrOk E){M:List Fact}(hM:∀y∈M,b07 E y){g:FuncId}{i:FInfo}(hi:E.fn g=some i){args:List AV}{H H':a08}{p:Value}(hle:Nat.ble args.length i.ntmps=true)
 (hcode:PanC (cx E M H.length i.ntmps g 0) i.code (a3l 0 args) H p H'):PanF E g args H p:=by
 intro I K ρ w cargs rel hn ha;obtain⟨fn,h1,h2,h3,h4,_⟩:=ok.fn g i hi;rw[a3m (b4k ok hi)];refine callsIn_wide.1 (callsIn_of_wp_marks (F:=Fence.wide) (n:=0) h1 h2 trivial ?_);rw[h3]
 let e:Entry:=⟨I,K,ρ,H.length,w,[]⟩
 have hnow:Now E e i.ntmps (a3l 0 args) H I ρ { tmps:=cargs.toArray++Array.replicate (i.ntmps-cargs.toArray.size) undef,defers:=[] } w:=⟨λ_ h=>h,λ_ _=>rfl,Ext.refl _ _ _,rel,hn,a9v (by simpa[Nat.ble_eq]using hle) ha,Nat.le_refl _,Marks.nil⟩
 refine hcode ok hdr hM (fid:=g) (ro:=none) (e:=e) rfl (hdr.draws g i hi) (hdr.code hi) ?_ hnow;intro I1 ρ1 a w1 hn1;obtain⟨rs,q1,q2,q3⟩:=hn1.marks;show LeavesInM _ _ _ _ _ _ a.defers _ _;rw[q1,show e.base=[]from rfl,List.append_nil];refine a9o rs w1 q2 (λr hr=>(q3 r hr).2.2) ?_;obtain⟨s1,s2,s3,s4,s5⟩:=a5m rs w1;have rel2:HRel E.G I1 K ρ1 (a04 H') (a1y rs w1):=HRel.shut hn1.rel (S:=(·∈rs)) (λc hc=>⟨(q3 c hc).1,_,(q3 c hc).2.2⟩) s1 s5;have ext2:Ext I K w (a1y rs w1):=by refine⟨by rw[s3];exact hn1.ext.os,by rw[s2];exact hn1.ext.tape,by rw[s4];exact hn1.ext.output,by rw[s1];exact hn1.ext.size,λc hc=>?_⟩;have hlt:c<w.heap.size:=hc.elim (rel.imm c) (rel.kept c);rw[s5 c (λhm=>by have h:w.heap.size≤c:=(q3 c hm).2.1;omega)];exact hn1.ext.keep c hc
 obtain⟨I2,ρ2,f1,f2,f3,f4,f5,_⟩:∃I' ρ',(∀c,I1 c→I' c)∧(∀b,b<H.length→ρ' b=ρ1 b)∧HRel E.G I' K ρ' (a04 (b3t H)) (a1y rs w1)∧NRel ρ' (b3t H).length∧H.length≤(b3t H).length∧True:=by
  refine⟨I1,λb=>if b<H.length then ρ1 b else none,λ_ h=>h,λb hb=>if_pos hb,?_,?_,by simp[b3t],trivial⟩
  ·refine⟨λb o hb=>(by rw[b5j]at hb;cases hb),λb b' m m' hb=>(by rw[b5j]at hb;cases hb),λb m hb=>?_,rel2.imm,rel2.kept,rel2.apart,rel2.glob⟩;split at hb
   ·exact rel2.dom b m hb
   ·cases hb
  ·intro b hb;have:¬b<H.length:=by simp[b3t]at hb;omega
   exact if_neg this
 exact⟨rfl,I2,ρ2,⟨λc hc=>f1 c (hn1.imm c hc),λb hb=>by rw[f2 b hb];exact hn1.map b hb,ext2,f3,f4,f5⟩⟩
end Go.Ax
/- AxBuf: a string's bytes behind those of a buffer whose block's type is told. -/
namespace Go.Ax
def c6u(w:World)(g:Nat)(t:TypeId)(c:Nat)(xs:List Value):Prop:=∃cur:Array Value,w.heap[g]?=some (.cells cur t (0,0))∧c≤cur.size∧∀(j:Nat) (x:Value),xs[j]?=some x→cur[j]?=some x
structure Buffed(w w':World)(g:Option Nat)(t:TypeId)(v':Value)(xs:List Value):Prop where
 os:w'.os=w.os
 tape:w'.tape=w.tape
 output:w'.output=w.output
 size:w.heap.size≤w'.heap.size
 other:∀k,k<w.heap.size→some k≠g→w'.heap[k]?=w.heap[k]?
 buf:∃g' c',v' = .slice (some ⟨g',0,none⟩) xs.length c'∧xs.length≤c'∧(some g'=g∨w.heap.size≤g')∧c6u w' g' t c' xs
section
variable {E:Env}{w:World}
theorem b1e(size:Nat)(s:ByteArray)(w':World):(Builtin.firstCells size s.size (.string s)).run E.P w' = .ok (Lib.strCells s).toArray w':=Lib.run_firstCells_string (P:=E.P) w' size s
theorem c1r(ok:EnvOk E){st xt elem:TypeId}{dx:TypeDesc}(hu:E.und st=some (.slice elem))(hxt:E.und xt=some dx)(hnint:a2r dx=false){z:List AV}(hz:E.zero elem=some z)(hsz:E.sz elem=1){base:Option Addr}{n c:Nat}{xs:List Value}{s:ByteArray}(ty:TypeId)
 (hn:xs.length=n)(hold:∀w',SameMem w w'→(Builtin.firstCells 1 n (.slice base n c)).run E.P w' = .ok xs.toArray w')(hneed:c<n+s.size)(hroom:a2g E elem (n+s.size)=true)(g:Option Nat) :
 ∃v' w',(Builtin.append_ #[st,xt] ty #[.slice base n c,.string s]).run E.P w = .ok v' w'∧Buffed w w' g elem v' (xs++Lib.strCells s):=by
 obtain⟨newCap,zs,w0,hw0,hcap,hzl,hrun⟩:=a7k (w:=w) ok hu hxt hnint hz (base:=base) (sLen:=n) (sCap:=c) (m:=s.size) (cx:=.string s) (old:=xs.toArray) (new:=(Lib.strCells s).toArray) ty rfl hneed hroom (by rw[hsz];exact hold) (λw' _=>b1e _ s w');refine⟨_,_,hrun,hw0.2.2.1,hw0.2.1,hw0.2.2.2,by rw[hw0.1];simp,λk hk _=>?_,w.heap.size,newCap,by rw[List.length_append,hn,Lib.strCells_length],by rw[List.length_append,hn,Lib.strCells_length];exact hcap,.inr (Nat.le_refl _),_,by show(w0.heap.push _)[w.heap.size]?=_;rw[hw0.1,Array.getElem?_push,if_pos rfl],?_,λj x hj=>?_⟩
 ·show(w0.heap.push _)[k]?=_;rw[hw0.1,Array.getElem?_push,if_neg (by omega)]
 ·have hfl:∀m,(List.replicate m zs).flatten.length=m:=by
   intro m
   induction m with
   |zero=>simp
   |succ m ih=>rw[List.replicate_succ,List.flatten_cons,List.length_append,ih,hzl,hsz];omega
  simp only[Array.size_append,List.size_toArray,hfl,hn,Lib.strCells_length];omega
 ·have hj':=(List.getElem?_eq_some_iff.1 hj).1;rw[Array.getElem?_append_left (by simpa using hj')];simpa using hj
theorem c2w(ok:EnvOk E){st xt elem:TypeId}{dx de:TypeDesc}(hu:E.und st=some (.slice elem))(hde:E.und elem=some de)(hxt:E.und xt=some dx)(hnint:a2r dx=false){z:List AV}(hz:E.zero elem=some z)(hsz:E.sz elem=1){a:Addr}{g c:Nat}{xs:List Value}{s:ByteArray}(ty:TypeId)
 (hs:s.size≠0)(ha:c=0∨a=⟨g,0,none⟩)(hc:xs.length≤c)(hb:c6u w g elem c xs)(hroom:a2g E elem (xs.length+s.size)=true) :
 ∃v' w',(Builtin.append_ #[st,xt] ty #[.slice (some a) xs.length c,.string s]).run E.P w = .ok v' w'∧Buffed w w' (some g) elem v' (xs++Lib.strCells s):=by
 obtain⟨cur,hg,hcc,hx⟩:=hb;by_cases hfit:xs.length+s.size≤c
 ·have ha:a=⟨g,0,none⟩:=ha.resolve_left (by omega);subst ha;obtain⟨w',hrun,⟨arr',hb',hsz'⟩,hoth,hsize,ht,hos,hout,hcells,hcell⟩:=b08 (w:=w) (blk:=g) (o:=xs.length) (e:=elem) (Lib.strCells s) hg (by rw[Lib.strCells_length];omega) (λc hc=>Lib.strCells_oneCell s c hc) E.P;refine⟨_,w',run_append_fits ok hu hde hxt hnint ty (m:=s.size) rfl hfit (by rw[hsz];exact b1e 1 s w) (λa ha=>?_) (λh=>by cases h),hos,ht,hout,by omega,λk hk hne=>hoth k (λe=>hne (by rw[e])),g,c,by rw[List.length_append,Lib.strCells_length],by rw[List.length_append,Lib.strCells_length];exact hfit,.inl rfl,arr',hb',by omega,?_⟩
  ·cases ha;rw[a2x,hsz,Nat.mul_one,Nat.zero_add];simpa using hrun
  ·intro j x hj;rcases Nat.lt_or_ge j xs.length with h1|h1
   ·rw[List.getElem?_append_left h1]at hj;have:=hcell j (.inl h1);rw[a1l hb',a1l hg]at this;rw[this];exact hx j x hj
   ·rw[List.getElem?_append_right h1]at hj;have:=hcells (j-xs.length) x hj;rw[a1l hb']at this;rw[show xs.length+(j-xs.length)=j by omega]at this;exact this
 ·refine c1r ok hu hxt hnint hz hsz ty rfl ?_ (by omega) hroom (some g);intro w' hw';by_cases h0:c=0
  ·have:xs=[]:=List.length_eq_zero_iff.1 (by omega);subst this;simp[Builtin.firstCells,loadCells,loadCellsFrom]
  ·have ha:a=⟨g,0,none⟩:=ha.resolve_left h0;subst ha;have:=run_loadCells_list (P:=E.P) w' ⟨g,0,none⟩ xs (λj v hj=>by
    rw[a2x,Nat.zero_add,hw'.cell,a1l hg];exact hx j v hj)
   simpa[Builtin.firstCells]using this
end
end Go.Ax
/- AxCell: a call that is handed a cell which c80 a slice. -/
namespace Go.Ax
end Go.Ax
/- AxCal: a call over any heap, told by its blocks. -/
namespace Go.Ax
theorem b1i:∀{l:List Nat},a2a l=true→l.Nodup
 | [],_=>List.nodup_nil
 |a::l,h=>by
  simp only[a2a,Bool.and_eq_true,Bool.not_eq_true']at h;refine List.nodup_cons.2 ⟨λhm=>?_,b1i h.2⟩;have:a1j l a=true:=by
   clear h
   induction l with
   |nil=>cases hm
   |cons b l ih=>
    rw[a03];rcases List.mem_cons.1 hm with rfl|hm
    ·simp
    ·simp[ih hm]
  rw[this]at h;cases h.1
theorem b3d:∀{l:List Nat},l.Nodup→∀{j b:Nat},l[j]?=some b→l.idxOf? b=some j
 | [],_,j,b,hj=>by simp at hj
 |a::l,h,0,b,hj=>by
  have:a=b:=by simpa using hj
  subst this;simp[List.idxOf?_cons]
 |a::l,h,j+1,b,hj=>by
  have hj:l[j]?=some b:=by simpa using hj
  have h:=List.nodup_cons.1 h;have hab:a≠b:=λe=>h.1 (by rw[e];exact List.mem_of_getElem? hj);have ih:=b3d h.2 hj;rw[List.idxOf?_cons,ih];simp[hab]
theorem c5c{l:List Nat}{b:Nat}(h:b∉l):l.idxOf? b=none:=by rw[List.idxOf?_eq_none_iff];exact h
theorem b00{E:Env}{call:CallF}{g:FuncId}{fs cs ar args args':List AV}{H H0 H1:a08}{v v':AV}{σ:List Nat}(hx:E.ext g=false)(hf:(E.fn g).isSome=true)(he:fs++ar++cs=args)
 (hσ:a0h H 1000000 (a0w args) []=σ)(hn:a2a σ=true)(hl:(σ.all λb=>decide (b<H.length))=true)(hra:args.map (ren (a36 σ))=args')(hH:a0u H σ (a36 σ)=H0)
 (hr:call g args' H0=some (v,H1))(hv:ren (a1g σ H.length) v=v') :
 ∃H',a0j E false call (.func (.func g) fs cs) ar H=some (v',H',σ)∧H'.length=H.length+(H1.length-σ.length)∧(∀j b,σ[j]?=some b→a04 H' b=(a04 H1 j).map (a0q (a1g σ H.length)))∧
  (∀b,b<H.length→b∉σ→a04 H' b=a04 H b)∧∀j,a04 H' (H.length+j)=(a04 H1 (σ.length+j)).map (a0q (a1g σ H.length)):=by
 have hcl:=a0o (call g) args H hσ hn hl hra hH hr;have hnd:=b1i hn;rw[List.all_eq_true]at hl;refine⟨_,a1x hx hf he (hcl.trans (by rw[hv])),?_,?_,?_,?_⟩
 ·simp[a1a]
 ·intro j b hj;have hb:b<H.length:=by simpa using hl b (List.mem_of_getElem? hj)
  rw[b6y (eq_true (by rw[a1a];exact hb))];unfold a04;rw[a7o,z9e hb,Nat.zero_add,b3d hnd hj];simp only[Option.map_some,Option.join_some];rfl
 ·intro b hb h1;rw[b6y (eq_true (by rw[a1a];exact hb))];unfold a04;rw[a7o,z9e hb,Nat.zero_add,c5c h1];rfl
 ·intro j;have hp:=a1a σ H.length H1 0 H;have e:H.length+j=(a0s σ H.length H1 0 H).length+j:=by rw[hp]
  rw[e,c81];unfold a04;rw[List.getElem?_map,List.getElem?_drop];cases H1[σ.length+j]? with
  |none=>rfl
  |some x=>cases x<;>rfl
theorem a13(H:a08)(n:Nat)(acc:List Nat):a0h H (n+1) [] acc=acc.reverse:=by unfold a0h;rfl
theorem a07{H:a08}{n:Nat}{b:Nat}{todo acc:List Nat}(h:a1j acc b=false):a0h H (n+1) (b::todo) acc=a0h H n (a39 (a04 H b)++todo) (b::acc):=by
 conv=>lhs;unfold a0h
 rw[h];rfl
theorem a6c{H:a08}{n:Nat}{b:Nat}{todo acc:List Nat}(h:a1j acc b=true):a0h H (n+1) (b::todo) acc=a0h H n todo acc:=by
 conv=>lhs;unfold a0h
 rw[h];rfl
end Go.Ax
/- AxPcs: walks of code that ends in a panic, in the style of AxWp. -/
namespace Go.Ax
def pq(x:Cx)(b:Code)(p:Value)(F':Frm)(H':a08):b4t:=λe F H=>match e with|.normal=>PanG x b F H p F' H'|_=>False
section
variable {E:Env}{M:List Fact}{m N:Nat}{g:FuncId}{cur:Nat}{F F1 F':Frm}{H H1 H':a08}{p:Value}{a b:Code}
theorem pcs(h:Wp (cx E M m N g cur) a F H (pq (cx E M m N g cur) b p F' H')):PanG (cx E M m N g cur) (.seq a b) F H p F' H':=by
 obtain⟨e,F',H1,h1,h2⟩:=b7j _ h;cases e with
 |normal=>exact PanG.seqR h1 h2
 |exit _=>exact h2.elim
 |ret=>exact h2.elim
theorem c38{x:Cx}(h:PanG x b F H p F' H'):pq x b p F' H' .normal F H:=h
theorem pcr{id:Nat}{ops:Array Oper}{log:List LogE}(s:Nat)(hr:a8h E false N (sem E M) ops.toList (ops.toList.take s) [] F H=some (F1,H1,log))
 {o:Oper}(ho:ops.toList[s]?=some o)(hg:o.guard=none)(h:d9v E M m N o F1 H1 p H'):PanC (cx E M m N g cur) (.region id ops false) F H p (List.replicate m none):=PanC.dead (x:=cx E M m N g cur) (PanG.region s hr ho hg h)
theorem e43{id:Nat}{ops:Array Oper}{log:List LogE}(s:Nat)(hr:a8h E false N (sem E M) ops.toList (ops.toList.take s) [] F H=some (F1,H1,log))
 {o:Oper}(ho:ops.toList[s]?=some o)(hg:o.guard=none)(h:PanOG E M m N o F1 H1 p F' H'):PanG (cx E M m N g cur) (.region id ops false) F H p F' H':=PanG.region s hr ho hg h
theorem pf(f:Func){args:List AV}(ok:EnvOk E)(hdr:DrOk E)(hM:∀y∈M,b07 E y)(hfn:E.fn g=some ⟨f.body.getD .skip,f.ntmps,f.results.toList⟩)(h:PanC (cx E M H.length f.ntmps g 0) (f.body.getD .skip) (a3l 0 args) H p (List.replicate H.length none))(hN:Nat.ble args.length f.ntmps=true:=by rfl):PanF E g args H p:=PanF.of ok hdr hM hfn hN h
theorem d5p{o:Oper}{f:Operand}{t:TypeId}{k:IntKind}{n:Int}(ho:o.op = .panic f)(hv:opv E F f = .iface t (.int k n)):d9v E M m N o F H (.iface t (.int k n)) H:=by refine PanOG.noF (F':=F) (PanOG.halt hv (λI w ρ c h=>by simpa only[VRel]using h) rfl ?_ (by rw[ho];intro c h;cases h));intro a w hf;unfold execOp;rw[ho];simp only[hf];rfl
theorem b8d:∀(b:Nat) (H:a08),b0s [] b H=H
 |_,[]=>rfl
 |b,o::r=>by simp only[b0s,b8d (b+1) r];rfl
theorem d14{o:Oper}{f:Operand}{args:Array Operand}{ats:Array TypeId}(hop:o.op = .call ⟨.value f,args,ats⟩){g1:FuncId}(hf:opv E F f = .func (.func g1) [] []){l:List AV}(ha:args.toList.map (opv E F)=l)(hl:a0w l=[])
 (h:PanF E g1 l [] p)(hg:(E.fn g1).isSome=true:=by kernel_rfl):d9v E M m N o F H p H:=by
 have e:([]:List AV)++args.toList.map (opv E F)++[]=l:=by simp[ha]
 refine PanOG.noF (F':=F) (PanOG.call (fs:=[]) (cs:=[]) (σ:=[]) hop hf hg (by rw[e,hl];rfl) (by rfl) ?_ (b8d 0 H));rw[e,a6a _ hl];exact h
theorem c4n{o:Oper}{f:Operand}{args:Array Operand}{ats:Array TypeId}(hop:o.op = .call ⟨.value f,args,ats⟩){g1:FuncId}{fs cs l l1:List AV}(hf:opv E F f = .func (.func g1) fs cs)(ha:fs++args.toList.map (opv E F)++cs=l){σ:List Nat}
 (hσ:a0h H a3a (a0w l) []=σ)(hc:(a2a σ&&σ.all (λb=>Nat.blt b H.length))=true)(hl:l.map (ren (a36 σ))=l1){Hs:a08}(hH:a0u H σ (a36 σ)=Hs)(h:PanF E g1 l1 Hs p)(hg:(E.fn g1).isSome=true:=by kernel_rfl):PanOG E M m N o F H p F (b0s σ 0 H):=by
 subst ha;subst hl;subst hH;exact PanOG.call hop hf hg hσ hc h rfl
end
end Go.Ax
/- AxKp: regions of plain operations leave the deferred calls alone. -/
namespace Go.Ax
def c6r(P:Program)(o:Oper):Prop:=(∀c,o.op≠ .defer c)∧∀ρ w,(∃v w',(execOp ρ o).run P w = .ok (.value v) w')∨(∃w',(execOp ρ o).run P w = .ok .skip w')∨(∃x w',(execOp ρ o).run P w = .halt x w')
theorem b6n{P:Program}{o:Oper}(hd:∀c,o.op≠ .defer c)(h:∀ρ,∃s:Sem Value,execOp ρ o=(do pure (.value (←s)))):c6r P o:=by
 refine⟨hd,λρ w=>?_⟩;obtain⟨s,hs⟩:=h ρ;rw[hs];simp only[bind_pure_comp,Sem.run_map];cases h:s.run P w with
 |ok v w'=>exact .inl ⟨v,w',rfl⟩
 |halt x w'=>exact .inr (.inr ⟨x,w',rfl⟩)
theorem d15{P:Program}{o:Oper}(hd:∀c,o.op≠ .defer c)(h:∀ρ,∃s:Sem Unit,execOp ρ o=(do s;pure .skip)):c6r P o:=by
 refine⟨hd,λρ w=>?_⟩;obtain⟨s,hs⟩:=h ρ;rw[hs];simp only[Sem.run_bind,Sem.run_pure];cases h:s.run P w with
 |ok v w'=>exact .inr (.inl ⟨w',rfl⟩)
 |halt x w'=>exact .inr (.inr ⟨x,w',rfl⟩)
def b0o:Op→Bool
 |.move _|.assign _|.build ..|.load ..|.store ..=>true
 |_=>false
theorem c7m{P:Program}{o:Oper}(h:b0o o.op=true):c6r P o:=by
 have hd:∀c,o.op≠ .defer c:=by intro c e;rw[e]at h;cases h
 cases ho:o.op<;>rw[ho]at h<;>first|(cases h;done)|skip
 ·exact b6n hd λρ=>⟨pure _,by unfold execOp;rw[ho];rfl⟩
 ·exact b6n hd λρ=>⟨pure _,by unfold execOp;rw[ho];rfl⟩
 ·exact b6n hd λρ=>⟨_,by unfold execOp;rw[ho]⟩
 ·exact b6n hd λρ=>⟨_,by unfold execOp;rw[ho]⟩
 ·exact d15 hd λρ=>⟨_,by unfold execOp;rw[ho]⟩
theorem c4k(a:Act)(d:Option Tmp)(v:Value):(a.put d v).defers=a.defers:=by cases d<;>rfl
theorem a5z{ro:Option Nat}{P:Program}{ops:Array Oper}{Q Q':Exit→Act→World→Prop}{ds:List Deferred}(hops:∀o∈ops.toList,b0o o.op=true)(hQ:∀e a w,Q e a w→a.defers=ds→Q' e a w) :
 ∀(l:List Nat) (a:Act) (w:World),a.defers=ds→wpOpsIn (wf ro) 0 P ops Q l a w→wpOpsIn (wf ro) 0 P ops Q' l a w
 | [],a,w,hd,h=>hQ _ _ _ h hd
 |i::rest,a,w,hd,h=>by
  unfold wpOpsIn at h⊢;split at h
  ·exact a5z hops hQ rest a w hd h
  ·rename_i o ho;have hp:=c7m (P:=P) (hops o (by
    have:=Array.mem_of_getElem? ho;simpa using this))
   split at h
   ·rename_i hw;rw[if_pos hw];refine⟨h.1,?_⟩;have h2:=h.2;rw[b67,Oper.semAt_eq _ _ _ hp.1]at h2⊢;rcases hp.2 a.eval w with ⟨v,w',e⟩|⟨w',e⟩|⟨x,w',e⟩
    ·rw[e]at h2⊢;exact a5z hops hQ rest _ _ (by rw[c4k];exact hd) h2
    ·rw[e]at h2⊢;exact a5z hops hQ rest _ _ (by rw[c4k];exact hd) h2
    ·rw[e]at h2⊢;cases x<;>first|exact h2.elim|exact hQ _ _ _ h2 hd
   ·rename_i hw;rw[if_neg hw];exact⟨h.1,a5z hops hQ rest _ _ (by rw[c4k];exact hd) h.2⟩
theorem b6m{E:Env}(ok:EnvOk E)(hdr:DrOk E){M:List Fact}(hM:∀y∈M,b07 E y){ro:Option Nat}{e:Entry}{N id:Nat}{ops:Array Oper}{F F1:Frm}{H H1:a08}{log:List LogE}{Q:Exit→Act→World→Prop}
 (hops:∀o∈ops.toList,b0o o.op=true)(hr:a8h E false N (sem E M) ops.toList ops.toList [] F H=some (F1,H1,log)){I:Nat→Prop}{ρ:PMap}{a:Act}{w:World}(hnow:Now E e N F H I ρ a w)
 (hQ:∀I ρ a' w',Now E e N F1 H1 I ρ a' w'→a'.defers=a.defers→Q .normal a' w'):(Code.region id ops false).wpIn (wf ro) 0 E.P Q a w:=by
 refine wpIn_region ?_;have hl:List.range ops.size=List.range' 0 ops.toList.length++[]:=by rw[List.range_eq_range',List.append_nil,Array.length_toList]
 rw[hl];refine a5z (Q:=λex a w=>ex = .normal∧∃I ρ,Now E e N F1 H1 I ρ a w) hops ?_ _ a w rfl (b0i ok (sem_ok ok hdr hM) (k:=λF H=>some (F,H)) (r:=(F1,H1)) (tl:=[]) ?_ ops.toList 0 [] F H I ρ a w ⟨[],by simp⟩ hnow (by rw[a8p,hr];rfl))
 ·rintro ex a' w' ⟨rfl,I,ρ,hn⟩ hd
  exact hQ I ρ a' w' hn hd
 ·intro F2 H2 I2 ρ2 a2 w2 hn2 hk;cases hk;exact⟨rfl,_,_,hn2⟩
end Go.Ax
/- AxDfr: a function that defers a closure, laid once, before the code that may panic. -/
namespace Go.Ax
theorem a6r{P:Program}{n:Nat}{F:Fence}{fn:Func}{tmps:Array Value}{R:Ending→World→Prop}{u:FrameMode}(hu:u≠ .run){ds:List Deferred}:∀(rs:List Nat) (w:World),rs.Nodup→(∀r∈rs,w.heap[r]?=some (.deferred (some [])))→
 LeavesInM F n P fn tmps R ds u (a1y rs w)→LeavesInM F n P fn tmps R (rs.map (λr=>(⟨.collected r,#[]⟩:Deferred))++ds) u w
 | [],w,_,_,h=>by simpa[a1y]using h
 |r::rs,w,hnd,hr,h=>by simp only[List.map_cons,List.cons_append,LeavesInM];refine⟨hu,.inl ⟨r,w.putObj r (.deferred none),rfl,run_takeDeferred (hr r (by simp)),?_⟩⟩;have hnd:=List.nodup_cons.1 hnd;refine a6r hu rs _ hnd.2 (λq hq=>?_) h;have hne:q≠r:=λe=>hnd.1 (by rw[←e];exact hq);rw[World.putObj_heap_other hne];exact hr q (by simp[hq])
def gq(E:Env)(e:Entry)(N:Nat)(b:Code)(ro:Option Nat)(Q:Exit→Act→World→Prop):b4t:=λex F H=>match ex with
 |.normal=>∀I ρ a w,Now E e N F H I ρ a w→b.wpIn (wf ro) 0 E.P Q a w
 |_=>False
section
variable {E:Env}(ok:EnvOk E)(hdr:DrOk E){M:List Fact}(hM:∀y∈M,b07 E y){ro:Option Nat}{e:Entry}{N:Nat}
include ok hdr hM
theorem gos{m:Nat}{g:FuncId}{cur:Nat}{a b:Code}{F:Frm}{H:a08}{Q:Exit→Act→World→Prop}(he:e.m=m)(hd:a1r false (.seq a b)=true)(hrf:RFOk E g N (E.keep g) ro cur (.seq a b))
 (h:Wp (cx E M m N g cur) a F H (gq E e N b ro Q)){I:Nat→Prop}{ρ:PMap}{act:Act}{w:World}(hnow:Now E e N F H I ρ act w):(Code.seq a b).wpIn (wf ro) 0 E.P Q act w:=by
 simp only[a1r,Bool.and_eq_true]at hd;obtain⟨ex,F',H1,h1,h2⟩:=b7j _ h;cases ex with
 |exit _=>exact h2.elim
 |ret=>exact h2.elim
 |normal=>obtain⟨n0,hev⟩:=h1;have hr:=hev n0 (Nat.le_refl _) (AExit×Frm×a08) (λe F H=>some (e,F,H));subst he;refine wpIn_seq (a5g ok (sem_ok ok hdr hM) a hd.1 hrf.seq1 ?_ hnow hr);intro y F2 H2 I ρ act w hn hk;cases hk;exact h2 _ _ _ _ hn
omit ok hdr hM in
theorem d3v{b:Code}{F:Frm}{H:a08}{Q:Exit→Act→World→Prop}(h:∀I ρ a w,Now E e N F H I ρ a w→b.wpIn (wf ro) 0 E.P Q a w):gq E e N b ro Q .normal F H:=h
theorem c5t{id:Nat}{o1 o2:Oper}{d:Nat}{g:FuncId}{caps:Array Operand}{ats:Array TypeId}(h1:o1.op = .makeFunc (.func g) #[] caps)(hd1:o1.dst=some d)(hg1:o1.guard=none)(h2:o2.op = .defer ⟨.value (.tmp d),#[],ats⟩)(hd2:o2.dst=none)(hg2:o2.guard=none)
 (hdN:a5y N (some d)=true){F:Frm}{H:a08}{Q:Exit→Act→World→Prop}{I:Nat→Prop}{ρ:PMap}{a:Act}{w:World}(hnow:Now E e N F H I ρ a w)
 (hQ:∀I1 ρ1 a1 w1 cs,Now E e N ((d,.func (.func g) [] (caps.toList.map (opv E F)))::F) H I1 ρ1 a1 w1→VRels I1 w1 ρ1 (caps.toList.map (opv E F)) cs→Q .normal { a1 with defers:=⟨.fn (.func g) cs.toArray,#[]⟩::a1.defers } w1) :
 (Code.region id #[o1,o2] false).wpIn (wf none) 0 E.P Q a w:=by
 refine wpIn_region ?_;show wpOpsIn (wf none) 0 E.P #[o1,o2] Q [0,1] a w;refine a60 (i:=0) (o:=o1) rfl (by simp[Region.wanted,hg1]) ?_;have hs:a1c E false (sem E M) F H o1.op=some (.func (.func g) [] (caps.toList.map (opv E F)),H,⟨[],[]⟩):=by rw[h1,b9k];rfl
 refine b2k ok (sem_ok ok hdr hM) hnow hs (by rw[hd1];exact hdN) ?_;intro I1 ρ1 a1 w1 hn1;rw[hd1]at hn1;have hn1:Now E e N ((d,.func (.func g) [] (caps.toList.map (opv E F)))::F) H I1 ρ1 a1 w1:=hn1;have hv:VRel I1 w1 ρ1 (.func (.func g) [] (caps.toList.map (opv E F))) (a1.eval (.tmp d)):=by
  have h0:=hn1.frm.2 d;have e0:a2k ((d,AV.func (.func g) [] (caps.toList.map (opv E F)))::F) d = .func (.func g) [] (caps.toList.map (opv E F)):=by simp[a2k]
  rw[e0]at h0;exact h0
 simp only[VRel,VRels]at hv;obtain⟨fs,cs,hve,hfs,hcs⟩:=hv;have hfs:fs = #[]:=by apply Array.ext';simpa using hfs
 subst hfs;show wpOpsIn (wf none) 0 E.P #[o1,o2] Q [1] a1 w1;unfold wpOpsIn;have ho:(#[o1,o2]:Array Oper)[1]?=some o2:=rfl;simp only[ho];rw[if_pos (by simp[Region.wanted,hg2])];refine⟨λf _=>c73 none f,?_⟩;have hrun:(o2.semAt (wf none).round a1.eval).run E.P w1 = .ok (.defer ⟨.fn (.func g) cs,#[]⟩) w1:=by rw[b67,Oper.semAt_none];unfold execOp;rw[h2];simp[resolve,hve,Deferred.ofValue]
 rw[hrun];have:=hQ I1 ρ1 a1 w1 cs.toList hn1 hcs;simpa[Oper.uponIn,hd2,Act.put,wpOpsIn]using this
end
theorem b1y{G:GTab (List AV)}{I I0 K:Nat→Prop}{ρ:PMap}{h:FHeap}{w0 w:World}{rs:List Nat}(hx:Ext I0 K w0 w)(hI:∀c,I0 c∨K c→c<w0.heap.size)(hr:HRel G I K ρ h w)(q:∀r∈rs,I r∧w0.heap.size≤r∧w.heap[r]?=some (.deferred (some []))) :
 HRel G I K ρ h (a1y rs w)∧Ext I0 K w0 (a1y rs w):=by
 obtain⟨s1,s2,s3,s4,s5⟩:=a5m rs w;refine⟨HRel.shut hr (S:=(·∈rs)) (λc hc=>⟨(q c hc).1,_,(q c hc).2.2⟩) s1 s5,by rw[s3];exact hx.os,by rw[s2];exact hx.tape,by rw[s4];exact hx.output,by rw[s1];exact hx.size,λc hc=>?_⟩;have hlt:=hI c hc;rw[s5 c (λhm=>by have h:w0.heap.size≤c:=(q c hm).2.1;omega)];exact hx.keep c hc
end Go.Ax
