/- AxTop: a call from outside: a3t old block is immutable. -/
import Derived.Test.YtmbmjfjagololaaGreatDoorAxC
import Derived.Below
import Derived.IntWalk
import Derived.KernelRfl
import GoSem.ClaimChange
import GoSem.ClaimJoined
import Derived.RowKit
import Derived.ChangeSame
import Derived.Carry
set_option linter.unusedSimpArgs false
set_option linter.unusedVariables false
namespace Go.Ax
open Go.RowKit
def Old(w:World):Nat→Prop:=λc=>c<w.heap.size
def Holds(E:Env)(w:World):Prop:=∀g cs,E.G g=some cs→g<w.heap.size∧GAt (Old w) w cs g
theorem d5a{E:Env}{f:FuncId}{run:List AV→a08→Option (AV×a08)}(mP:f≠yId)(hf:a4h E f run){args:List AV}{v:AV}{H':a08}(h:run args []=some (v,H')){w:World}(hG:Holds E w){ah:List Value}(ha:VRels (Old w) w noP args ah) :
 Calls E.P f ah.toArray w λen w'=>∃c I' ρ',en = .returned c∧Below w.heap.size w w'∧VRel I' w' ρ' v c:=by
 have rel:HRel E.G (Old w) (λ_=>False) noP (a03 []) w:=by
  refine⟨?_,?_,?_,λc hc=>hc,λc hc=>hc.elim,λ_ _ h=>h,hG⟩
  ·intro b o hb;simp[a03]at hb
  ·intro b b' m m' hb;simp[a03]at hb
  ·intro b m hb;simp[noP]at hb
 have h0:=hf args [] v H' h (Old w) (λ_=>False) noP w ah rel (λ_ _=>rfl) ha;rw[a3l mP]at h0;refine Calls.mono h0 ?_
 rintro en w' ⟨c,I',ρ',rfl,aB,hv⟩
 exact⟨c,I',ρ',rfl,⟨aB.ext.os,aB.ext.tape,aB.ext.output,aB.ext.size,λk hk=>aB.ext.keep k (.inl hk)⟩,hv⟩
theorem c7h{E:Env}{f:FuncId}{run:List AV→a08→Option (AV×a08)}(mP:f≠yId)(hf:a4h E f run){args:List AV}{H':a08}(h:run args []=some (.bool true,H')){w:World}(hG:Holds E w){ah:List Value}(ha:VRels (Old w) w noP args ah) :
 Calls E.P f ah.toArray w λen w'=>en = .returned (.bool true)∧Below w.heap.size w w':=by
 refine(d5a mP hf h hG ha).mono ?_
 rintro en w' ⟨c,I',ρ',rfl,hb,hv⟩
 simp only[VRel]at hv;subst hv;exact⟨rfl,hb⟩
end Go.Ax
/- AxSem: what a call comes to, a5u fuel for the calls: a function 'sem', closed under running a body over itself. No condition. -/
namespace Go.Ax
abbrev CallF:=FuncId→List AV→a08→Option (AV×a08)
def CallF.le(c c':CallF):Prop:=∀g a H r,c g a H=some r→c' g a H=some r
theorem a85{r r':List AV→a08→Option (AV×a08)}(h:∀a H x,r a H=some x→r' a H=some x){args:List AV}{H:a08}{x:AV×a08×List Nat}
 (hc:a2u r args H=some x):a2u r' args H=some x:=by
 unfold a2u at hc⊢;simp only at hc⊢;rw[cond_eq_ite]at hc⊢;split at hc
 case isFalse=>cases hc
 rename_i h1;rw[e3g h1];split at hc
 case h_2=>cases hc
 rename_i v H1 hr;rw[h _ _ _ hr];exact hc
theorem b8s{r r':List AV→a08→Option (AV×a08)}(h:∀a H x,r a H=some x→r' a H=some x){args:List AV}{H:a08}{x:AV×a08×List Nat}
 (hc:a95 r args H=some x):a95 r' args H=some x:=by
 unfold a95 at hc⊢;split at hc
 case h_2=>cases hc
 rename_i an h1;split at hc
 case h_2=>cases hc
 rename_i v H1 hr;rw[h _ _ _ hr];exact hc
section
variable {E:Env}{ai:Bool}{N:Nat}{c c':CallF}(hc:CallF.le c c')
include hc
theorem c37{f:AV}{args:List AV}{H:a08}{x:AV×a08×List Nat}(h:a0e E ai c f args H=some x):a0e E ai c' f args H=some x:=by
 unfold a0e at h⊢;split at h
 case h_3=>cases h
 case h_2=>
  split at h
  case h_2=>cases h
  rename_i v H' σ hr;rw[a85 (λa H x=>hc yId a H x) hr];exact h
 rename_i g fs cs;rw[cond_eq_ite]at h⊢;split at h
 ·rename_i h1;rw[e3g h1];rw[cond_eq_ite]at h⊢;split at h
  ·rename_i h2;rw[e3g h2];exact b8s (λa H x=>hc g a H x) h
  ·rename_i h2;rw[e2i h2];exact h
 ·rename_i h1;rw[e2i h1];rw[cond_eq_ite]at h⊢;split at h
  case isFalse=>cases h
  rename_i h2;rw[e3g h2];split at h
  case h_2=>cases h
  rename_i v H' σ hr;rw[a85 (λa H x=>hc g a H x) hr];exact h
theorem c04{F:Frm}{H:a08}{op:Op}{x:AV×a08×LogE}(h:a1c E ai c F H op=some x):a1c E ai c' F H op=some x:=by
 unfold a1c at h⊢;split at h
 ·split at h
  case h_2=>cases h
  rename_i v H' σ hr;rw[c37 hc hr];exact h
 ·exact h
theorem b2z{R:Type}{all:List Oper}{k k':Frm→a08→Option R}(hk:∀F H r,k F H=some r→k' F H=some r):∀(au:List Oper) (log:List LogE) (F:Frm) (H:a08) {r:R},
 a26 E ai N c all au log F H k=some r→a26 E ai N c' all au log F H k'=some r:=by
 intro au
 induction au with
 |nil=>
  intro log F H r h;unfold a26 at h⊢;rw[cond_eq_ite]at h⊢;split at h
  case isFalse=>cases h
  rename_i h1;rw[e3g h1];exact hk _ _ _ h
 |cons o ag ih=>
  have step:∀(log:List LogE) (F F':Frm) (H:a08) (op:Op) (r:R),(match a1c E ai c F H op with
   |some (v,H',l)=>a26 E ai N c all ag (l::log) (a3f F' o.dst v) H' k
   |none=>none)=some r→(match a1c E ai c' F H op with
   |some (v,H',l)=>a26 E ai N c' all ag (l::log) (a3f F' o.dst v) H' k'
   |none=>none)=some r:=by
   intro log F F' H op r h;split at h
   case h_2=>cases h
   rename_i v H' l hs;rw[c04 hc hs];exact ih _ _ _ h
  intro log F H r h;unfold a26 at h⊢;rw[cond_eq_ite]at h⊢;split at h
  case isFalse=>cases h
  rename_i h1;rw[e3g h1];split at h
  ·exact step _ _ _ _ _ _ h
  ·rename_i j bQ hg;split at h
   ·cases h
   ·rename_i d hd;split at h
    ·rename_i b hb;rw[cond_eq_ite]at h⊢;split at h
     ·rename_i pb;rw[e3g pb];rw[cond_eq_ite]at h⊢;split at h
      ·rename_i hw;rw[e3g hw];exact step _ _ _ _ _ _ h
      ·rename_i hw;rw[e2i hw];exact ih _ _ _ h
     ·rename_i pb;rw[e2i pb];rw[cond_eq_ite]at h⊢;split at h
      ·rename_i hw;rw[e3g hw];exact ih _ _ _ h
      ·rename_i hw;rw[e2i hw];exact step _ _ _ _ _ _ h
    ·exact ih _ _ _ h
    ·cases h
omit hc in
theorem b5n{m0:Nat}{keep:List Nat}{R:Type}{b b':Frm→a08→(AExit→Frm→a08→Option R)→Option R}
 (hb:∀F H (k k':AExit→Frm→a08→Option R),(∀e F H r,k e F H=some r→k' e F H=some r)→∀r,b F H k=some r→b' F H k'=some r):∀(n n':Nat),n≤n'→∀(F:Frm) (H:a08) (k k':AExit→Frm→a08→Option R),(∀e F H r,k e F H=some r→k' e F H=some r)→∀{r:R},
 b1z m0 keep b n F H k=some r→b1z m0 keep b' n' F H k'=some r
 |0,_,_,F,H,k,k',_,r,h=>by simp[b1z]at h
 |n+1,0,hn,F,H,k,k',_,r,h=>by omega
 |n+1,n'+1,hn,F,H,k,k',hk,r,h=>by
  unfold b1z at h⊢;simp only at h⊢;rw[cond_eq_ite]at h⊢;split at h
  case isFalse=>cases h
  rename_i h1;rw[e3g h1];refine hb _ _ _ _ ?_ r h;intro e F H r h;cases e with
  |normal=>exact b5n hb n n' (by omega) F H k k' hk h
  |exit id=>exact hk _ _ _ _ h
  |ret=>exact hk _ _ _ _ h
omit hc in
theorem b30{m0 it:Nat}{keep:List Nat}{ks bj:List Int}{b b':Frm→a08→(AExit→Frm→a08→Option R3)→Option R3}
 (hb:∀F H (k k':AExit→Frm→a08→Option R3),(∀e F H r,k e F H=some r→k' e F H=some r)→∀r,b F H k=some r→b' F H k'=some r){a:Option Int}{F:Frm}{H:a08}{x:R3}(h:b1n m0 it keep ks bj b a F H=some x):b1n m0 it keep ks bj b' a F H=some x:=by
 unfold b1n at h⊢;split at h
 case h_2=>cases h
 rename_i F1 H1 hg;split at h
 case h_2=>cases h
 rename_i H2 ha;exact hb _ _ _ _ (λ_ _ _ _ h=>h) _ h
omit hc in
theorem b36{m0 it:Nat}{keep:List Nat}{ks:List Int}{b b':Frm→a08→(AExit→Frm→a08→Option R3)→Option R3}
 (hb:∀F H (k k':AExit→Frm→a08→Option R3),(∀e F H r,k e F H=some r→k' e F H=some r)→∀r,b F H k=some r→b' F H k'=some r):∀{o bj:List Int} {F:Frm} {H:a08} {x:R3},a4z m0 it keep ks b bj o F H=some x→a4z m0 it keep ks b' bj o F H=some x
 | [],bj,F,H,x,h=>by
  unfold a4z at h⊢;split at h
  ·cases h
  ·rename_i e F' H' aK hr;rw[b30 hb hr];cases e with
   |normal=>exact(aK rfl).elim
   |exit id=>exact h
   |ret=>exact h
  ·cases h
 |i::o,bj,F,H,x,h=>by
  unfold a4z at h⊢;split at h
  case h_2=>cases h
  rename_i F' H' hr;rw[b30 hb hr];exact b36 hb h
omit hc in
theorem c2l{m0 it:Nat}{keep:List Nat}{R:Type}{b b':Frm→a08→(AExit→Frm→a08→Option R3)→Option R3}
 (hb:∀F H (k k':AExit→Frm→a08→Option R3),(∀e F H r,k e F H=some r→k' e F H=some r)→∀r,b F H k=some r→b' F H k'=some r){F:Frm}{H:a08}{k k':AExit→Frm→a08→Option R}(hk:∀e F H r,k e F H=some r→k' e F H=some r){r:R}
 (h:c2m m0 it keep b F H k=some r):c2m m0 it keep b' F H k'=some r:=by
 unfold c2m at h⊢;split at h
 case h_2=>cases h
 rename_i ks eO;split at h
 case h_2=>cases h
 rename_i r0 rs lr;rw[cond_eq_ite]at h;split at h
 case isFalse=>cases h
 rename_i aH;have hm:(b5j ks).map (λo=>a4z m0 it keep ks b' [] o F H)=some r0::rs:=by
  rw[←lr];refine e5c λo ho=>?_;have hm:=e5r (f:=λo=>a4z m0 it keep ks b [] o F H) ho;rw[lr]at hm;have he:a4z m0 it keep ks b [] o F H=some r0:=by
   rcases e3b.1 hm with h|h
   ·exact h
   ·exact c1b (e3n.1 aH _ h)
  rw[he];exact b36 hb he
 rw[hm];simp only[aH,e3e];exact hk _ _ _ _ h
theorem a5k{m0 lf ib:Nat}(hl:lf≤ib){keep:Nat→List Nat}:∀(code:Code) {R:Type} (cur:Nat) (F:Frm) (H:a08) (k k':AExit→Frm→a08→Option R),(∀e F H r,k e F H=some r→k' e F H=some r)→∀{r:R},
 a3r E m0 N keep c lf cur code F H k=some r→a3r E m0 N keep c' ib cur code F H k'=some r:=by
 intro code
 induction code with
 |skip=>intro R cur F H k k' hk r h;unfold a3r at h⊢;exact hk _ _ _ _ h
 |label l=>intro R cur F H k k' hk r h;unfold a3r at h⊢;exact hk _ _ _ _ h
 |exit id=>intro R cur F H k k' hk r h;unfold a3r at h⊢;exact hk _ _ _ _ h
 |ret=>intro R cur F H k k' hk r h;unfold a3r at h⊢;exact hk _ _ _ _ h
 |region id au ai=>
  intro R cur F H k k' hk r h;unfold a3r at h⊢;cases hn:c84 au.toList with
  |none=>rw[hn]at h;exact b2z hc (λF H r h=>hk _ _ _ _ h) _ _ _ _ h
  |some x=>
   obtain⟨it,nx,ag⟩:=x;rw[hn]at h;simp only[cond_eq_ite]at h⊢;split at h
   case isTrue=>cases h
   rename_i h1;rw[e2i h1];split at h
   case h_2=>cases h
   rename_i v H' hx;exact b2z hc (λF H r h=>hk _ _ _ _ h) _ _ _ _ h
 |seq x y ihx ihy=>
  intro R cur F H k k' hk r h;unfold a3r at h⊢;refine ihx _ _ _ _ _ ?_ h;intro e F H r h;cases e with
  |normal=>exact ihy _ _ _ _ _ hk h
  |exit id=>exact hk _ _ _ _ h
  |ret=>exact hk _ _ _ _ h
 |cond x y z ihy ihz=>
  intro R cur F H k k' hk r h;unfold a3r at h⊢;split at h
  case h_2=>cases h
  rename_i t ht;simp only[cond_eq_ite]at h⊢;split at h
  ·rename_i h1;rw[e3g h1];exact ihy _ _ _ _ _ hk h
  ·rename_i h1;rw[e2i h1];exact ihz _ _ _ _ _ hk h
 |block id b ih=>
  intro R cur F H k k' hk r h;unfold a3r at h⊢;refine ih _ _ _ _ _ ?_ h;intro e F H r h;cases e with
  |normal=>exact hk _ _ _ _ h
  |exit id'=>
   simp only[cond_eq_ite]at h⊢;split at h
   ·rename_i h1;rw[e3g h1];exact hk _ _ _ _ h
   ·rename_i h1;rw[e2i h1];exact hk _ _ _ _ h
  |ret=>exact hk _ _ _ _ h
 |loop b ih=>
  intro R cur F H k k' hk r h;unfold a3r at h⊢;cases hn:a8u b with
  |some it=>rw[hn]at h;exact c2l (λF H k k' hk r h=>ih _ F H k k' hk h) hk h
  |none=>
  rw[hn]at h;dsimp only at h⊢;refine b5n (λF H k k' hk r h=>ih _ F H k k' hk h) _ _ hl F H _ _ ?_ h;intro e F H r h;rw[cond_eq_ite]at h⊢;split at h
  ·rename_i h1;rw[e3g h1];exact hk _ _ _ _ h
  ·rename_i h1;rw[e2i h1];exact hk _ _ _ _ h
 |scope b ih=>intro R cur F H k k' hk r h;unfold a3r at h⊢;exact ih _ _ _ _ _ hk h
 |rangeFunc f ps as b=>
  intro R cur F H k k' hk r h;unfold a3r at h⊢;split at h
  case h_2=>cases h
  rename_i g fs cs y _ _;rw[cond_eq_ite]at h⊢;split at h
  case isFalse=>cases h
  rename_i h1;rw[e3g h1];split at h
  case h_2=>cases h
  rename_i v H2 σ hr;rw[a85 (λa H x=>hc g a H x) hr];dsimp only;split at h
  ·exact hk _ _ _ _ h
  ·exact hk _ _ _ _ h
  ·exact hk _ _ _ _ h
  ·cases h
 |_=>intro R cur F H k k' hk r h;simp[a3r]at h
theorem b6v{lf ib:Nat}(hl:lf≤ib){args:List AV}{H:a08}{r:AV×a08}(h:a8e E c lf args H=some r):a8e E c' ib args H=some r:=by
 unfold a8e at h⊢;split at h
 case h_2=>cases h
 rename_i b vs;split at h
 case h_2=>cases h
 rename_i y F hb;split at h
 case h_2=>cases h
 rename_i ri nJ;rw[cond_eq_ite]at h⊢;split at h
 case isFalse=>cases h
 rename_i h1;rw[e3g h1];refine a5k hc hl _ _ _ _ _ _ ?_ h;intro e F H r h;cases e with
 |normal=>
  dsimp only at h⊢;split at h
  case h_2=>cases h
  rename_i H1 hy;exact a5k hc hl _ _ _ _ _ _ (λ_ _ _ _ h=>h) h
 |exit id=>exact h
 |ret=>exact h
theorem c6v{m0 lf ib:Nat}(hl:lf≤ib){keep:Nat→List Nat}:∀(code:Code) {R:Type} (cur:Nat) (F:Frm) (H:a08) (k k':AExit→Frm→a08→Option R),(∀e F H r,k e F H=some r→k' e F H=some r)→∀{r:R},
 d3f E m0 N keep c lf cur code F H k=some r→d3f E m0 N keep c' ib cur code F H k'=some r:=by
 intro code
 induction code with
 |seq x y ihx ihy=>
  intro R cur F H k k' hk r h;unfold d3f at h⊢;refine ihx _ _ _ _ _ ?_ h;intro e F H r h;cases e with
  |normal=>exact ihy _ _ _ _ _ hk h
  |exit id=>exact hk _ _ _ _ h
  |ret=>exact hk _ _ _ _ h
 |_=>intro R cur F H k k' hk r h;exact a5k hc hl _ _ _ _ _ _ hk h
theorem c6w{m0 lf ib j:Nat}(hl:lf≤ib){keep:Nat→List Nat}:∀(n:Nat) (code:Code) {R:Type} (cur:Nat) (F:Frm) (H:a08) (k k':AExit→Frm→a08→Option R),(∀e F H r,k e F H=some r→k' e F H=some r)→∀{r:R},
 d86 E m0 N keep c lf j n cur code F H k=some r→d86 E m0 N keep c' ib j n cur code F H k'=some r:=by
 intro n
 induction n with
 |zero=>intro code R cur F H k k' hk r h;exact a5k hc hl _ _ _ _ _ _ hk h
 |succ n ih=>
  intro code;cases code with
  |seq x y=>
   intro R cur F H k k' hk r h;refine a5k hc hl x cur F H _ _ ?_ h;intro e F H r h;cases e with
   |normal=>exact ih _ _ _ _ _ _ hk h
   |exit id=>exact hk _ _ _ _ h
   |ret=>exact hk _ _ _ _ h
  |_=>intro R cur F H k k' hk r h;exact a5k hc hl _ _ _ _ _ _ hk h
theorem b0s{lf ib:Nat}(hl:lf≤ib){g:FuncId}{args:List AV}{H:a08}{r:AV×a08}(h:a6c E c lf g args H=some r):a6c E c' ib g args H=some r:=by
 unfold a6c at h⊢;split at h
 ·exact h
 split at h
 ·skip
  rw[cond_eq_ite]at h⊢;split at h
  case isFalse=>cases h
  rename_i h1;rw[e3g h1];exact b6v hc hl h
 rename_i i hi;rw[cond_eq_ite]at h⊢;split at h
 case isFalse=>cases h
 rename_i h1;rw[e3g h1];unfold e01 at h⊢;cases hz:E.zf g with
 |true=>
  rw[hz,e3e]at h;rw[e3e];cases hzn:E.zn g with
  |zero=>rw[hzn]at h;exact c6v hc hl _ _ _ _ _ _ (λ_ _ _ _ h=>h) h
  |succ n=>rw[hzn]at h;exact c6w hc hl _ _ _ _ _ _ _ (λ_ _ _ _ h=>h) h
 |false=>rw[hz,e3p]at h;rw[e3p];exact a5k hc hl _ _ _ _ _ _ (λ_ _ _ _ h=>h) h
end
inductive Der(E:Env)(M:List Fact):FuncId→List AV→a08→AV×a08→Prop
 |run (g:FuncId) (args:List AV) (H:a08) (r:AV×a08) (c:CallF) (lf:Nat) (hc:∀g a H r,c g a H=some r→Der E M g a H r)
  (bP:∀x∈M,x.g≠g) (h:a6c E c lf g args H=some r):Der E M g args H r
 |fact (x:Fact) (hx:x∈M) (qq:∀y∈M,y.g=x.g→y.args=x.args→y.v=x.v):Der E M x.g x.args [] (x.v,[])
open Classical in
noncomputable def d9o(c c':CallF):CallF:=λg a H=>match c g a H with|some r=>some r|none=>c' g a H
theorem Der.one{E:Env}{M:List Fact}{g:FuncId}{args:List AV}{H:a08}{r r':AV×a08}(h:Der E M g args H r)(h':Der E M g args H r'):r=r':=by
 induction h generalizing r' with
 |run g args H r c lf hc bP h ih=>
  cases h' with
  |run _ _ _ _ c' ib oz hno' h'=>
   have l1:CallF.le c (d9o c c'):=by intro g a H r h;simp[d9o,h]
   have l2:CallF.le c' (d9o c c'):=by
    intro g a H r h;unfold d9o;cases fi:c g a H with
    |none=>exact h
    |some s=>exact congrArg some (ih g a H s fi (oz g a H r h))
   have e1:=b0s l1 (Nat.le_max_left lf ib) h;have e2:=b0s l2 (Nat.le_max_right lf ib) h';exact z9o (e1.symm.trans e2)
  |fact x hx=>exact absurd rfl (bP x hx)
 |fact x hx hf=>
  generalize hg:x.g=g at h';generalize ha:x.args=args at h';generalize hH:([]:a08)=H at h';cases h' with
  |run _ _ _ _ c' ib oz hno' h'=>exact absurd hg (hno' x hx)
  |fact y hy hf'=>rw[hf y hy hg.symm ha.symm]
theorem Der.ok{E:Env}(ok:EnvOk E)(al:DrOk E){M:List Fact}(hM:∀x∈M,b0f E x){g:FuncId}{args:List AV}{H:a08}{r:AV×a08}(h:Der E M g args H r) :
 a4h E g (λa H'=>open Classical in if a=args∧H'=H then some r else none):=by
 induction h with
 |run g args H r c lf hc bP h ih=>
  have am:a3d E c:=by intro g a H v H' hr;have:=ih g a H (v,H') hr;exact this a H v H' (by simp)
  intro a H' v sx hr;dsimp only at hr;split at hr
  ·rename_i hh;obtain⟨rfl,rfl⟩:=hh;cases hr;exact c7u ok al am lf g a H' v sx h
  ·cases hr
 |fact x hx hf=>
  intro a H' v sx hr;dsimp only at hr;split at hr
  ·rename_i hh;obtain⟨rfl,rfl⟩:=hh;cases hr;intro I K ρ w ah h1 h2 h3;exact hM x hx I K ρ w ah h1 h2 h3
  ·cases hr
open Classical in
noncomputable def sem(E:Env)(M:List Fact):CallF:=λg args H=>if h:∃r,Der E M g args H r then some h.choose else none
section
variable {E:Env}{M:List Fact}
theorem c09{g:FuncId}{args:List AV}{H:a08}{r:AV×a08}:sem E M g args H=some r↔Der E M g args H r:=by
 unfold sem;constructor
 ·intro h;split at h
  ·rename_i hh;cases h;exact hh.choose_spec
  ·cases h
 ·intro h;have hh:∃r,Der E M g args H r:=⟨r,h⟩
  rw[dif_pos hh];exact congrArg some (Der.one hh.choose_spec h)
theorem a90{g:FuncId}{args:List AV}{H:a08}{r:AV×a08}(bP:∀x∈M,x.g≠g)(lf:Nat)(h:a6c E (sem E M) lf g args H=some r):sem E M g args H=some r:=c09.2 (.run g args H r (sem E M) lf (λ_ _ _ _ h=>c09.1 h) bP h)
theorem sem_ok(ok:EnvOk E)(al:DrOk E)(hM:∀x∈M,b0f E x):a3d E (sem E M):=by intro g args H v H' h;exact(Der.ok ok al hM (c09.1 h)) args H v H' (by simp)
end
end Go.Ax
/- AxEv: runs of statements in direct style: what a statement comes to, for a3t loop fuel that is great enough. -/
namespace Go.Ax
def d02{α β:Type}(x:Option α)(f:α→β)(d:β):β:=match x with|some a=>f a|none=>d
def a1a{α β:Type}(x:Option α)(f:α→Option β):Option β:=match x with|some a=>f a|none=>none
@[go_sem] theorem d4a{α β:Type}(a:α)(f:α→Option β):a1a (some a) f=f a:=by rfl
@[congr] theorem d1w{α β:Type}{x y:Option α}{f:α→Option β}(h:x=y):a1a x f=a1a y f:=by rw[h]
def a7h(E:Env)(ai:Bool)(N:Nat)(call:CallF)(all:List Oper):List Oper→List LogE→Frm→a08→Option (Frm×a08×List LogE)
 | [],log,F,H=>some (F,H,log)
 |o::ag,log,F,H=>
  bif a5z N o.dst then
   match o.guard with
   |none=>a1a (a1c E ai call F H o.op) λx=>a7h E ai N call all ag (x.2.2::log) (a3f F o.dst x.1) x.2.1
   |some (j,bQ)=>match a30 all j with
    |none=>none
    |some d=>match a2h F d with
     |.bool b=>bif b then
      (bif bQ then a1a (a1c E ai call (a3f F (some d) (.bool true)) H o.op) λx=>a7h E ai N call all ag (x.2.2::log) (a3f (a3f F (some d) (.bool true)) o.dst x.1) x.2.1
      else a7h E ai N call all ag (⟨[],[]⟩::log) (a3f (a3f F (some d) (.bool true)) o.dst (.tuple [])) H)
      else
       (bif bQ then a7h E ai N call all ag (⟨[],[]⟩::log) (a3f (a3f F (some d) (.bool false)) o.dst (.tuple [])) H
       else a1a (a1c E ai call (a3f F (some d) (.bool false)) H o.op) λx=>a7h E ai N call all ag (x.2.2::log) (a3f (a3f F (some d) (.bool false)) o.dst x.1) x.2.1)
     |.tuple []=>a7h E ai N call all ag (⟨[],[]⟩::log) (a3f F o.dst (.tuple [])) H
     |_=>none
  else none
theorem a6r{E:Env}{ai:Bool}{N:Nat}{call:CallF}{all:List Oper}{R:Type}{k:Frm→a08→Option R}:∀(au:List Oper) (log:List LogE) (F:Frm) (H:a08),
 a26 E ai N call all au log F H k=(match a7h E ai N call all au log F H with|some (F',H',go)=>(bif !ai||logOk all go.length go then k F' H' else none)|none=>none):=by
 intro au
 induction au with
 |nil=>intro log F H;rfl
 |cons o ag ih=>
  intro log F H;have step:∀(F1 F2:Frm),(match a1c E ai call F1 H o.op with
   |some (v,H',l)=>a26 E ai N call all ag (l::log) (a3f F2 o.dst v) H' k
   |none=>none)=(match a1a (a1c E ai call F1 H o.op) λx=>a7h E ai N call all ag (x.2.2::log) (a3f F2 o.dst x.1) x.2.1 with|some (F',H',go)=>(bif !ai||logOk all go.length go then k F' H' else none)|none=>none):=by
   intro F1 F2;cases a1c E ai call F1 H o.op with
   |none=>rfl
   |some x=>exact ih _ _ _
  obtain⟨dst,op,ty,pos,after,guard⟩:=o;unfold a26 a7h;cases hd:a5z N dst with
  |false=>rfl
  |true=>
   cases guard with
   |none=>exact step F F
   |some g=>
    obtain⟨j,bQ⟩:=g;simp only[e3e];cases hs:a30 all j with
    |none=>rfl
    |some d=>
     simp only;cases hv:a2h F d with
     |bool b=>cases b<;>cases bQ<;>simp only[e3e,e3p]<;>first|exact step _ _|exact ih _ _ _
     |tuple vs=>cases vs with
      |nil=>exact ih _ _ _
      |cons a r=>rfl
     |_=>rfl
structure Cx where
 E:Env
 M:List Fact
 m0:Nat
 N:Nat
 keep:Nat→List Nat
 cur:Nat
def Ev(x:Cx)(c:Code)(F:Frm)(H:a08)(r:AExit×Frm×a08):Prop:=∃n0,∀lf,n0≤lf→∀(R:Type) (k:AExit→Frm→a08→Option R),a3r x.E x.m0 x.N x.keep (sem x.E x.M) lf x.cur c F H k=k r.1 r.2.1 r.2.2
section
variable {x:Cx}{F F1:Frm}{H H1:a08}{r:AExit×Frm×a08}
theorem Ev.skip:Ev x .skip F H (.normal,F,H):=⟨0,λ_ _ _ _=>rfl⟩
theorem Ev.label{l}:Ev x (.label l) F H (.normal,F,H):=⟨0,λ_ _ _ _=>rfl⟩
theorem Ev.leave{id}:Ev x (.exit id) F H (.exit id,F,H):=⟨0,λ_ _ _ _=>rfl⟩
theorem Ev.ret:Ev x .ret F H (.ret,F,H):=⟨0,λ_ _ _ _=>rfl⟩
theorem d1y{E:Env}{ai:Bool}{N:Nat}{call:CallF}{all au:List Oper}{log:List LogE}{F:Frm}{H:a08}{r:Frm×a08×List LogE}(h:a7h E ai N call all au log F H=some r):c84 au=none:=by
 unfold c84;split
 ·rfl
 ·rename_i o ag;split
  ·rename_i it nx h1 h2 h3;obtain⟨d,op,ty,pos,after,guard⟩:=o;simp only at h1 h2 h3;subst h1 h2 h3;unfold a7h at h;have hs:a1c E ai call F H (.next (.tmp it) false)=none:=by
    have:aop E H.length (a03 H) (.next (.tmp it) false) (opv E F)=none:=by show b1e (a03 H) (opv E F (.tmp it)) false=none;unfold b1e;split<;>rfl
    unfold a1c;simp only[this]
   rw[cond_eq_ite]at h;split at h
   ·simp only[hs,a1a]at h;cases h
   ·cases h
  ·rfl
theorem Ev.region{id au ai}{log:List LogE}(h:a7h x.E ai x.N (sem x.E x.M) au.toList au.toList [] F H=some (F1,H1,log))(hl:(!ai||logOk au.toList log.length log)=true):Ev x (.region id au ai) F H (.normal,F1,H1):=⟨0,λ_ _ R k=>by simp only[a3r,d1y h,a6r,h,hl,e3e]⟩
theorem Ev.seq{a b}(h:Ev x a F H (.normal,F1,H1))(h2:Ev x b F1 H1 r):Ev x (.seq a b) F H r:=by obtain⟨n,h⟩:=h;obtain⟨m,h2⟩:=h2;exact⟨max n m,λlf hl R k=>by simp only[a3r];rw[h lf (by omega)];exact h2 lf (by omega) R k⟩
theorem Ev.seq_ret{a b}(h:Ev x a F H (.ret,F1,H1)):Ev x (.seq a b) F H (.ret,F1,H1):=by obtain⟨n,h⟩:=h;exact⟨n,λlf hl R k=>by simp only[a3r];rw[h lf hl]⟩
theorem Ev.seq_exit{a b id}(h:Ev x a F H (.exit id,F1,H1)):Ev x (.seq a b) F H (.exit id,F1,H1):=by obtain⟨n,h⟩:=h;exact⟨n,λlf hl R k=>by simp only[a3r];rw[h lf hl]⟩
theorem Ev.cond_t{c a b}(hc:opv x.E F c = .bool true)(h:Ev x a F H r):Ev x (.cond c a b) F H r:=by obtain⟨n,h⟩:=h;exact⟨n,λlf hl R k=>by simp only[a3r,hc,e3e];exact h lf hl R k⟩
theorem Ev.cond_f{c a b}(hc:opv x.E F c = .bool false)(h:Ev x b F H r):Ev x (.cond c a b) F H r:=by obtain⟨n,h⟩:=h;exact⟨n,λlf hl R k=>by simp only[a3r,hc,e3p];exact h lf hl R k⟩
theorem Ev.block{id b}(h:Ev { x with cur:=id } b F H (.normal,F1,H1)):Ev x (.block id b) F H (.normal,F1,H1):=by obtain⟨n,h⟩:=h;exact⟨n,λlf hl R k=>by simp only[a3r];rw[h lf hl]⟩
theorem Ev.block_ret{id b}(h:Ev { x with cur:=id } b F H (.ret,F1,H1)):Ev x (.block id b) F H (.ret,F1,H1):=by obtain⟨n,h⟩:=h;exact⟨n,λlf hl R k=>by simp only[a3r];rw[h lf hl]⟩
theorem Ev.block_exit{id b}(h:Ev { x with cur:=id } b F H (.exit id,F1,H1)):Ev x (.block id b) F H (.normal,F1,H1):=by obtain⟨n,h⟩:=h;exact⟨n,λlf hl R k=>by simp only[a3r];rw[h lf hl];simp⟩
theorem Ev.block_on{id id' b}(h:Ev { x with cur:=id } b F H (.exit id',F1,H1))(aK:(id'==id)=false):Ev x (.block id b) F H (.exit id',F1,H1):=by obtain⟨n,h⟩:=h;exact⟨n,λlf hl R k=>by simp only[a3r];rw[h lf hl];simp only[aK,e3p]⟩
theorem Ev.scope{b}(h:Ev x b F H r):Ev x (.scope b) F H r:=by obtain⟨n,h⟩:=h;exact⟨n,λlf hl R k=>by simp only[a3r];exact h lf hl R k⟩
def EvL(x:Cx)(b:Code)(F:Frm)(H:a08)(r:AExit×Frm×a08):Prop:=
 ∃n0,∀lf,n0≤lf→∀n,n0≤n→∀(R:Type) (k:AExit→Frm→a08→Option R),
  b1z x.m0 (x.keep x.cur) (λF H k=>a3r x.E x.m0 x.N x.keep (sem x.E x.M) lf x.cur b F H k) n F H k=k r.1 r.2.1 r.2.2
theorem Ev.loop{b}(hx:a8u b=none)(hz:d4i (x.keep x.cur)=false)(h:EvL x b F H r):Ev x (.loop b) F H r:=by obtain⟨n,h⟩:=h;exact⟨n,λlf hl R k=>by simp only[a3r,hx,hz,e3p];exact h lf hl lf hl R k⟩
theorem c5p{m0:Nat}{keep:List Nat}(hg:gcD m0 keep F H=some (F1,H1)) :
 (a25 (a80 m0 (a5x keep F) H)&&(a80 m0 (a5x keep F) H).all (λb=>Nat.ble m0 b)&&Nat.ble m0 H.length)=true∧c3j (b95 m0 (a80 m0 (a5x keep F) H)) (a5x keep F)=F1∧gcH m0 (a80 m0 (a5x keep F) H) H=H1:=by
 unfold gcD at hg;simp only[cond_eq_ite]at hg;split at hg
 case isFalse=>cases hg
 rename_i hc;cases hg;exact⟨hc,rfl,rfl⟩
theorem EvL.leave{b:Code}{F2:Frm}{H2:a08}{e:AExit}(hg:gcD x.m0 (x.keep x.cur) F H=some (F1,H1))(h:Ev x b F1 H1 (e,F2,H2))(he:e≠ .normal):EvL x b F H (e,F2,H2):=by
 obtain⟨n0,h⟩:=h;refine⟨n0+1,λlf hl n hn R k=>?_⟩;obtain⟨n,rfl⟩:∃l,n=l+1:=⟨n-1,by omega⟩
 obtain⟨h1,h2,h3⟩:=c5p hg;simp only[b1z,h1,h2,h3,e3e];rw[h lf (by omega)];cases e with
 |normal=>exact absurd rfl he
 |exit id=>rfl
 |ret=>rfl
theorem EvL.again{b:Code}{F2:Frm}{H2:a08}(hg:gcD x.m0 (x.keep x.cur) F H=some (F1,H1))(h:Ev x b F1 H1 (.normal,F2,H2))(h':EvL x b F2 H2 r):EvL x b F H r:=by
 obtain⟨n0,h⟩:=h;obtain⟨m0,h'⟩:=h';refine⟨max n0 m0+1,λlf hl n hn R k=>?_⟩;obtain⟨n,rfl⟩:∃l,n=l+1:=⟨n-1,by omega⟩
 obtain⟨h1,h2,h3⟩:=c5p hg;simp only[b1z,h1,h2,h3,e3e];rw[h lf (by omega)];exact h' lf (by omega) n (by omega) R k
theorem c18{E:Env}{M:List Fact}{g:FuncId}{args:List AV}{H:a08}{code:Code}{N:Nat}{results:List ResultVar}{e:AExit}{F':Frm}{H':a08}{vs:List AV}{v:AV}{H2:a08}
 (cI:E.fn g=some ⟨code,N,results⟩)(bP:∀y∈M,y.g≠g)(hN:Nat.ble args.length N=true)(h:Ev ⟨E,M,H.length,N,E.keep g,0⟩ code (a3k 0 args) H (e,F',H'))(he:∀id,e≠ .exit id)
 (hr:a1l E F' H' results=some vs)(bi:a5t (E.thaw g) H.length (a7t vs) H'=some (v,H2))(hp:E.prim g args=none)(hz:E.zf g=false)(hw:E.raw g=false):sem E M g args H=some (v,H2):=by
 obtain⟨n,h⟩:=h;refine a90 bP n ?_;unfold a6c;have s9:primH E g args H=none:=b5h hp;rw[s9,cI];simp only;rw[hN];simp only[e3e];unfold e01;rw[hz];simp only[e3p];refine(h n (e2c _) _ _).trans ?_;cases e with
 |exit id=>exact absurd rfl (he id)
 |normal=>simp only[hr,d0e,hw];exact bi
 |ret=>simp only[hr,d0e,hw];exact bi
end
end Go.Ax
/- AxSimp: the evaluator's steps as rewrite rules. -/
namespace Go.Ax
section
variable {E:Env}{ai:Bool}{N:Nat}{call:CallF}{all ag:List Oper}{log:List LogE}{F:Frm}{H:a08}
@[go_sem] theorem d9g(s:Nat)(v:AV)(r:Frm):a2h ((s,v)::r) s=v:=by simp only[a2h,c3l,cond_eq_ite,e7d,e78]
@[go_sem] theorem d72{s t:Nat}(h:(s=t)=False)(v:AV)(r:Frm):a2h ((s,v)::r) t=a2h r t:=by have:¬s=t:=λe=>h▸e;simp only[a2h,c3l,cond_eq_ite,e6n,e2i this]
@[go_sem] theorem d5n(d:Nat)(v:AV):a3f F (some d) v=(d,v)::F:=by rfl
@[go_sem] theorem d5o(v:AV):a3f F none v=F:=by rfl
@[go_sem] theorem e16(t:Nat):opv E F (.tmp t)=a2h F t:=by rfl
@[go_sem] theorem d93(f:Nat):opv E F (.func f) = .func (.func f) [] []:=by rfl
@[go_sem] theorem d94(b:Bool):opv E F (.const (.bool b)) = .bool b:=by rfl
@[go_sem] theorem e18(k:IntKind)(n:Int):opv E F (.const (.int k n)) = .int k n:=by rfl
@[go_sem] theorem d01:opv E F (.const (.slice none 0 0)) = .nilslice:=by rfl
@[go_sem] theorem e17(s:ByteArray):opv E F (.const (.string s)) = .str s.data.toList:=by rfl
@[go_sem] theorem d8p:a7h E ai N call all [] log F H=some (F,H,log):=by rfl
@[go_sem] theorem d4k(d:Nat):a5z N (some d)=decide (d<N):=by rw[a5z,e7c];simp[e3f]
@[go_sem] theorem d4l:a5z N none=true:=by rfl
theorem d1n(dst:Option Nat)(op:Op)(ty:TypeId)(pos:String)(after:Array Edge) :
 a7h E ai N call all ({ dst:=dst,op:=op,type:=ty,pos:=pos,after:=after,guard:=none }::ag) log F H =
  bif a5z N dst then a1a (a1c E ai call F H op) λx=>a7h E ai N call all ag (x.2.2::log) (a3f F dst x.1) x.2.1 else none:=by
 rfl
def c7t(E:Env)(ai:Bool)(N:Nat)(call:CallF)(all:List Oper)(dst:Option Nat)(op:Op)(ag:List Oper)(log:List LogE)(F:Frm)(H:a08)(d:Nat)(bQ:Bool):AV→Option (Frm×a08×List LogE)
 |.bool b=>bif b then
  (bif bQ then a1a (a1c E ai call (a3f F (some d) (.bool true)) H op) λx=>a7h E ai N call all ag (x.2.2::log) (a3f (a3f F (some d) (.bool true)) dst x.1) x.2.1
  else a7h E ai N call all ag (⟨[],[]⟩::log) (a3f (a3f F (some d) (.bool true)) dst (.tuple [])) H)
  else
   (bif bQ then a7h E ai N call all ag (⟨[],[]⟩::log) (a3f (a3f F (some d) (.bool false)) dst (.tuple [])) H
   else a1a (a1c E ai call (a3f F (some d) (.bool false)) H op) λx=>a7h E ai N call all ag (x.2.2::log) (a3f (a3f F (some d) (.bool false)) dst x.1) x.2.1)
 |.tuple []=>a7h E ai N call all ag (⟨[],[]⟩::log) (a3f F dst (.tuple [])) H
 |_=>none
theorem c2e(dst:Option Nat)(op:Op)(ty:TypeId)(pos:String)(after:Array Edge)(j:Nat)(bQ:Bool) :
 a7h E ai N call all ({ dst:=dst,op:=op,type:=ty,pos:=pos,after:=after,guard:=some (j,bQ) }::ag) log F H =
  bif a5z N dst then a1a (a30 all j) λd=>c7t E ai N call all dst op ag log F H d bQ (a2h F d)else none:=by
 unfold a7h;cases a5z N dst with
 |false=>rfl
 |true=>
  simp only[e3e];cases a30 all j with
  |none=>rfl
  |some d=>simp only[a1a];unfold c7t;rfl
section
variable {dst:Option Nat}{op:Op}{d:Nat}
theorem d1j:c7t E ai N call all dst op ag log F H d true (.bool true)=a1a (a1c E ai call ((d,.bool true)::F) H op) λx=>a7h E ai N call all ag (x.2.2::log) (a3f ((d,.bool true)::F) dst x.1) x.2.1:=by rfl
theorem d1k:c7t E ai N call all dst op ag log F H d true (.bool false)=a7h E ai N call all ag (⟨[],[]⟩::log) (a3f ((d,.bool false)::F) dst (.tuple [])) H:=by rfl
theorem d1l:c7t E ai N call all dst op ag log F H d false (.bool true)=a7h E ai N call all ag (⟨[],[]⟩::log) (a3f ((d,.bool true)::F) dst (.tuple [])) H:=by rfl
theorem d1m:c7t E ai N call all dst op ag log F H d false (.bool false)=a1a (a1c E ai call ((d,.bool false)::F) H op) λx=>a7h E ai N call all ag (x.2.2::log) (a3f ((d,.bool false)::F) dst x.1) x.2.1:=by rfl
theorem d1i{bQ:Bool}:c7t E ai N call all dst op ag log F H d bQ (.tuple [])=a7h E ai N call all ag (⟨[],[]⟩::log) (a3f F dst (.tuple [])) H:=by cases bQ<;>rfl
end
attribute [go_sem] d1n c2e d1j d1k d1l d1m d1i
@[congr] theorem d41{dst:Option Nat}{op:Op}{d:Nat}{bQ:Bool}{v v':AV}(h:v=v'):c7t E ai N call all dst op ag log F H d bQ v=c7t E ai N call all dst op ag log F H d bQ v':=by rw[h]
/-! ### one operation -/
@[go_sem] theorem e0p(x:Operand):a1c E ai call F H (.move x)=some (opv E F x,H,⟨[],[]⟩):=by rfl
@[go_sem] theorem d5i(x:Operand):a1c E ai call F H (.assign x)=some (opv E F x,H,⟨[],[]⟩):=by rfl
theorem a2e{op:Op}{v:Option AV}(h:aop E H.length (a03 H) op (opv E F)=v.map (·,.none))(hs:a1c E ai call F H op=match aop E H.length (a03 H) op (opv E F)with
 |some (v,e)=>bif e.fits H.length then some (v,a9i H e,⟨a88 op (opv E F),e.keys H.length⟩)else none
 |none=>none):a1c E ai call F H op=a1a v λv=>some (v,H,⟨a88 op (opv E F),[]⟩):=by
 rw[hs,h];cases v<;>rfl
@[go_sem] theorem e21(op:BinOp)(t:TypeId)(x y:Operand)(z):a1c E ai call F H (.binOp op t x y z)=a1a (b1i E op t (opv E F x) (opv E F y) (a41 x||a41 y)) λv=>some (v,H,⟨[],[]⟩):=a2e rfl rfl
@[go_sem] theorem e48(op:UnOp)(t:TypeId)(x:Operand):a1c E ai call F H (.unOp op t x)=a1a (aun op (opv E F x)) λv=>some (v,H,⟨[],[]⟩):=a2e rfl rfl
@[go_sem] theorem e0r(s d:TypeId)(x:Operand):a1c E ai call F H (.convert s d x)=a1a (a8x E (a03 H) s d (opv E F x)) λv=>some (v,H,⟨a16 (opv E F x),[]⟩):=a2e rfl rfl
@[go_sem] theorem e0q(t:TypeId)(x:Operand):a1c E ai call F H (.load t x)=a1a (a7a E (a03 H) t (opv E F x)) λv=>some (v,H,⟨a16 (opv E F x),[]⟩):=a2e rfl rfl
@[go_sem] theorem d8i(t:TypeId)(x:Operand)(lo hi mx:Option Operand):a1c E ai call F H (.slice t x lo hi mx)=a1a (a3q E (a03 H) t (opv E F x) (lo.map (opv E F)) (hi.map (opv E F)) (mx.map (opv E F))) λv=>some (v,H,⟨a16 (opv E F x),[]⟩):=a2e rfl rfl
@[go_sem] theorem c9u(t:TypeId)(x:Operand)(f:Nat):a1c E ai call F H (.fieldAddr t x f)=a1a (a5a E t (opv E F x) f) λv=>some (v,H,⟨[],[]⟩):=a2e rfl rfl
@[go_sem] theorem c9t(t:TypeId)(x i:Operand):a1c E ai call F H (.indexAddr t x i)=a1a (a1x E (a03 H) t (opv E F x) (opv E F i)) λv=>some (v,H,⟨a16 (opv E F x),[]⟩):=a2e rfl rfl
@[go_sem] theorem d8k(t:TypeId)(x i:Operand):a1c E ai call F H (.index t x i)=a1a (b65 E t (opv E F x) (opv E F i)) λv=>some (v,H,⟨[],[]⟩):=a2e rfl rfl
@[go_sem] theorem d8m(t:TypeId)(ps:Array (Nat×Operand)):a1c E ai call F H (.build t ps)=a1a (b68 E t (ps.toList.map λp=>(p.1,opv E F p.2))) λv=>some (v,H,⟨[],[]⟩):=a2e rfl rfl
@[go_sem] theorem d5g(t:TypeId)(x k:Operand)(o:Bool):a1c E ai call F H (.lookup t x k o)=a1a (oor (a28 E (a03 H) t (opv E F x) (opv E F k) o) (b4j E (a03 H) t (opv E F x) (opv E F k) o)) λv=>some (v,H,⟨a16 (opv E F x),[]⟩):=a2e rfl rfl
@[go_sem] theorem c05(fn:Fn)(first cap:Array Operand):a1c E ai call F H (.makeFunc fn first cap)=some (.func fn (first.toList.map (opv E F)) (cap.toList.map (opv E F)),H,⟨[],[]⟩):=by rfl
def b9l(c a b:AV):Option AV:=match c with|.bool t=>some (b4v t a b)|_=>none
@[go_sem] theorem e0n(c a b:Operand):a1c E ai call F H (.pick c a b)=a1a (b9l (opv E F c) (opv E F a) (opv E F b)) λv=>some (v,H,⟨[],[]⟩):=by refine a2e ?_ rfl;simp only[aop,b9l];cases opv E F c<;>rfl
@[go_sem] theorem d39(t a b:Bool):b9l (.bool t) (.bool a) (.bool b)=some (.bool (bif t then a else b)):=by rfl
@[go_sem] theorem d38(a b:AV):b9l (.bool true) a b=some (b4v true a b):=by rfl
@[go_sem] theorem d0m(a b:AV):b9l (.bool false) a b=some (b4v false a b):=by rfl
theorem d36(a b:AV):b4v true a b=a:=by unfold b4v;split<;>simp
theorem d37(a b:AV):b4v false a b=b:=by unfold b4v;split<;>simp
attribute [go_sem] d36 d37
def b9m(x:AV):Option AV:=match x with
 |.ptr b i o=>some (.ptr b i o)
 |.iptr cs=>some (.iptr cs)
 |.func (.func f) fs cs=>some (.func (.func f) fs cs)
 |_=>none
attribute [go_sem] b9m
@[go_sem] theorem d16(x:Operand):a1c E ai call F H (.nilCheck x)=a1a (b9m (opv E F x)) λv=>some (v,H,⟨[],[]⟩):=by
 refine a2e ?_ rfl;simp only[aop];generalize opv E F x=y;cases y<;>try rfl
 rename_i fn _ _;cases fn<;>rfl
def b7n(x:AV)(i:Nat):Option AV:=match x with|.tuple vs=>vs[i]?|_=>none
attribute [go_sem] b7n
@[go_sem] theorem d3w(t:Operand)(i:Nat):a1c E ai call F H (.extract t i)=a1a (b7n (opv E F t) i) λv=>some (v,H,⟨[],[]⟩):=by
 refine a2e ?_ rfl;simp only[aop,b7n];cases opv E F t with
 |tuple vs=>simp only;cases vs[i]?<;>rfl
 |_=>rfl
theorem a4j{op:Op}{v:Option (AV×Eff)}(h:aop E H.length (a03 H) op (opv E F)=v)(hs:a1c E ai call F H op=match aop E H.length (a03 H) op (opv E F)with
 |some (v,e)=>bif e.fits H.length then some (v,a9i H e,⟨a88 op (opv E F),e.keys H.length⟩)else none
 |none=>none){n:List Nat}(hn:a88 op (opv E F)=n):a1c E ai call F H op=a1a v λx=>bif x.2.fits H.length then some (x.1,a9i H x.2,⟨n,x.2.keys H.length⟩)else none:=by
 rw[hs,h];subst hn;cases v<;>rfl
@[go_sem] theorem d8n(t:TypeId):a1c E ai call F H (.alloc t)=a1a (d3b E H.length t) λx=>bif x.2.fits H.length then some (x.1,a9i H x.2,⟨[],x.2.keys H.length⟩)else none:=a4j rfl rfl rfl
@[go_sem] theorem e20(t:TypeId)(x:Operand):a1c E ai call F H (.box t x)=a1a (d3k H.length (opv E F x)) λx=>bif x.2.fits H.length then some (x.1,a9i H x.2,⟨[],x.2.keys H.length⟩)else none:=a4j rfl rfl rfl
@[go_sem] theorem d8h(t:TypeId)(a x:Operand):a1c E ai call F H (.store t a x)=a1a (a7f E (a03 H) t (opv E F a) (opv E F x)) λe=>bif e.fits H.length then some (.tuple [],a9i H e,⟨a16 (opv E F a),e.keys H.length⟩)else none:=by refine(a4j (v:=(a7f E (a03 H) t (opv E F a) (opv E F x)).map (.tuple [],·)) rfl rfl rfl).trans ?_;cases a7f E (a03 H) t (opv E F a) (opv E F x)<;>rfl
@[go_sem] theorem c7n(t:TypeId)(n:Nat)(ps:Array (Nat×Operand)):a1c E ai call F H (.buildSlice t n ps)=a1a (a3c E H.length t n (ps.toList.map λp=>(p.1,opv E F p.2))) λx=>bif x.2.fits H.length then some (x.1,a9i H x.2,⟨[],x.2.keys H.length⟩)else none:=a4j rfl rfl rfl
@[go_sem] theorem c9s(t:TypeId)(l c:Operand):a1c E ai call F H (.makeSlice t l c)=a1a (a3x E H.length t (opv E F l) (opv E F c)) λx=>bif x.2.fits H.length then some (x.1,a9i H x.2,⟨[],x.2.keys H.length⟩)else none:=a4j rfl rfl rfl
@[go_sem] theorem d3v(t:TypeId):a1c E ai call F H (.makeMap t none)=some (.map H.length,H++[some (b5l E t)],⟨[],[H.length]⟩):=by rfl
@[go_sem] theorem d5h(t:TypeId)(m k x:Operand):a1c E ai call F H (.insert t m k x)=a1a (oor (a0c E (a03 H) t (opv E F m) (opv E F k) (opv E F x)) (b4u E (a03 H) t (opv E F m) (opv E F k) (opv E F x))) λe=>bif e.fits H.length then some (.tuple [],a9i H e,⟨a16 (opv E F m),e.keys H.length⟩)else none:=by refine(a4j (v:=(oor (a0c E (a03 H) t (opv E F m) (opv E F k) (opv E F x)) (b4u E (a03 H) t (opv E F m) (opv E F k) (opv E F x))).map (.tuple [],·)) rfl rfl rfl).trans ?_;cases oor (a0c E (a03 H) t (opv E F m) (opv E F k) (opv E F x)) (b4u E (a03 H) t (opv E F m) (opv E F k) (opv E F x))<;>rfl
@[go_sem] theorem d8j(t:TypeId)(x:Operand):a1c E ai call F H (.range t x)=a1a (oor (b4f E H.length t (opv E F x)) (b4e E H.length t (opv E F x))) λx=>bif x.2.fits H.length then some (x.1,a9i H x.2,⟨[],x.2.keys H.length⟩)else none:=a4j rfl rfl rfl
@[go_sem] theorem e0o(it:Operand)(b:Bool):a1c E ai call F H (.next it b)=a1a (b1e (a03 H) (opv E F it) b) λx=>bif x.2.fits H.length then some (x.1,a9i H x.2,⟨a16 (opv E F it),x.2.keys H.length⟩)else none:=a4j rfl rfl rfl
@[go_sem] theorem e1z(x:Operand)(t:TypeId):a1c E ai call F H (.call { callee:=.builtin .len,args:=#[x],argTypes:=#[t] })=a1a (b9v E (a03 H) t (opv E F x)) λv=>some (v,H,⟨a16 (opv E F x),[]⟩):=by refine(a2e (v:=b9v E (a03 H) t (opv E F x)) rfl rfl).trans ?_;simp[a88]
@[go_sem] theorem e1y(x:Operand)(xs:List Operand)(ts:Array TypeId):a1c E ai call F H (.call { callee:=.builtin .min,args:=⟨x::xs⟩,argTypes:=ts })=a1a (d4r (opv E F x) (xs.map (opv E F))) λv=>some (v,H,⟨(x::xs).flatMap λx=>a16 (opv E F x),[]⟩):=a2e rfl rfl
@[go_sem] theorem d5j(x y:Operand)(t u:TypeId):a1c E ai call F H (.call { callee:=.builtin .append,args:=#[x,y],argTypes:=#[t,u] })=a1a (oor (a44 E (a03 H) H.length t u (opv E F x) (opv E F y)) (a3j E H.length t u (opv E F x) (opv E F y))) λz=>bif z.2.fits H.length then some (z.1,a9i H z.2,⟨a16 (opv E F x)++a16 (opv E F y),z.2.keys H.length⟩)else none:=a4j rfl rfl (by simp[a88])
@[go_sem] theorem d4w{E:Env}{n:Nat}{t u:TypeId}{x:AV}{b off len:Nat}{cap:Option Nat}:a3j E n t u (.slice b off len cap) x=none:=by unfold a3j;rfl
@[go_sem] theorem d3n{E:Env}{n:Nat}{t u:TypeId}{b off len:Nat}{cap:Option Nat}:a3j E n t u .nilslice (.slice b off len cap)=none:=by unfold a3j;rfl
@[go_sem] theorem d96{α:Type}(x:Option α):oor x none=x:=by cases x<;>rfl
@[go_sem] theorem d95{α:Type}(x:α)(y:Option α):oor (some x) y=some x:=by rfl
@[go_sem] theorem d1o{g:FuncId}{fs cs:List AV}{H H':a08}{σ:List Nat}:a6d E (.func (.func g) fs cs) H H' σ=(E.ro g&&σ.all λb=>b0p (a03 H b) (a03 H' b)):=by rfl
@[go_sem] theorem d7p{α:Type}(b:Bool)(x:α):(bif b then x else x)=x:=by cases b<;>rfl
@[go_sem] theorem d4b(ro:Bool)(σ:List Nat)(n:Nat):b4q ro σ n n=bif ro then[]else σ:=by unfold b4q;rw[cond_eq_ite,e3g (by rw[e5a])]
attribute [go_sem] List.range'_succ List.range'_zero
@[go_sem] theorem e0s(f:Operand)(args:Array Operand)(ts:Array TypeId):a1c E ai call F H (.call { callee:=.value f,args:=args,argTypes:=ts })=a1a (a0e E ai call (opv E F f) (args.toList.map (opv E F)) H) λx=>some (x.1,x.2.1,⟨x.2.2,b4q (a6d E (opv E F f) H x.2.1 x.2.2) x.2.2 H.length x.2.1.length⟩):=by simp only[a1c];cases a0e E ai call (opv E F f) (args.toList.map (opv E F)) H<;>rfl
end
/-! ### tables read by type -/
section
variable (E:Env)
def b9w(t:TypeId):Option Bool:=(E.und t).map a2l
def b5w(t:TypeId)(f:Nat):Option (Nat×TypeId):=match E.und t with|some (.struct fs)=>(fs[f]?).map λd=>(d.offset,d.type)|_=>none
def d0h(t:TypeId):Bool:=match E.und t with
 |some (.struct fs)=>fs.toList.all (λf=>(E.und f.type).isSome)
 |some (.array _ e)=>(E.und e).isSome
 |_=>false
def b8f(t:TypeId)(i:Nat):Option (Nat×Nat):=match E.und t with
 |some (.struct fs)=>(fs[i]?).map λf=>(f.offset,E.sz f.type)
 |some (.array _ e)=>some (i*E.sz e,E.sz e)
 |_=>none
def isT(t:TypeId):Bool:=(E.und t).isSome
end
section
variable {E:Env}{h:FHeap}
def d1v:Option Bool→List AV→Option AV
 |some true,cs=>some (.agg cs)
 |some false,cs=>cs.head?
 |none,_=>none
attribute [go_sem] d1v List.head?_cons
@[go_sem] theorem d6g(t:TypeId)(cs:List AV):a2q E t cs=bif decide (cs.length=E.sz t)then d1v (b9w E t) cs else none:=by
 unfold a2q b9w;have e:(cs.length==E.sz t)=decide (cs.length=E.sz t):=by by_cases h:cs.length=E.sz t<;>simp[h]
 rw[e];cases E.und t with
 |none=>cases decide (cs.length=E.sz t)<;>rfl
 |some d=>cases decide (cs.length=E.sz t)<;>simp[d1v]<;>cases a2l d<;>rfl
def fieldAt(E:Env)(p:AV)(o:Nat)(t:TypeId):Option AV:=
 bif decide (E.sz t≠0)&&isT E t then match p with
  |.ptr b i q=>some (.ptr b i (q+o))
  |.iptr cs=>some (.iptr (cs.drop o))
  |_=>none
 else none
attribute [go_sem] fieldAt
@[go_sem] theorem d0p(t:TypeId)(p:AV)(f:Nat):a5a E t p f=a1a (b5w E t f) λx=>fieldAt E p x.1 x.2:=by
 unfold a5a b5w fieldAt isT;cases E.und t with
 |none=>rfl
 |some d=>
  cases d<;>try rfl
  rename_i fs;simp only;cases fs[f]? with
  |none=>rfl
  |some fd=>
   by_cases h:E.sz fd.type=0
   ·simp[h,a1a]
   ·have e:(E.sz fd.type==0)=false:=e3o.2 h;simp[h,e,a1a];rfl
@[go_sem] theorem e02(t:TypeId)(aL:List (Nat×AV)):b68 E t aL=bif d0h E t then a1a (E.zero t) λz=>a1a (b1f (b8f E t) z aL) λcs=>some (.agg cs)else none:=by
 unfold b68 d0h b8f;cases hz:E.zero t with
 |none=>
  simp only[a1a];cases E.und t with
  |none=>rfl
  |some d=>cases d<;>simp
 |some z=>
  cases hu:E.und t with
  |none=>rfl
  |some d=>
   cases d<;>try rfl
   ·simp only[a1a];split<;>simp_all<;>split<;>simp_all<;>rfl
   ·simp only[a1a];split<;>simp_all<;>split<;>simp_all<;>rfl
end
/-! ### values -/
section
variable {E:Env}{h:FHeap}{t:TypeId}{k:IntKind}{a b:Int}{p q:Bool}{c:Bool}
theorem ikb(k:IntKind):(k==k)=true:=by cases k<;>rfl
@[go_sem] theorem e0c:b1i E .add t (.int k a) (.int k b) c=some (.int k (k.wrap (a+b))):=by simp only[b1i,ikb,c3o,e3e]
@[go_sem] theorem e03:b1i E .sub t (.int k a) (.int k b) c=some (.int k (k.wrap (a-b))):=by simp only[b1i,ikb,c3o,e3e]
@[go_sem] theorem e06:b1i E .mul t (.int k a) (.int k b) c=some (.int k (k.wrap (a*b))):=by simp only[b1i,ikb,c3o,e3e]
theorem e3t(a b:Int):(a==b)=decide (a=b):=by
 by_cases h:a=b
 ·subst h;simp
 ·rw[e3o.2 h,e50 h]
@[go_sem] theorem e0b:b1i E .eql t (.int k a) (.int k b) c=some (.bool (decide (a=b))):=by simp only[b1i,ikb,c3o,e3e,e3t]
@[go_sem] theorem e05:b1i E .neq t (.int k a) (.int k b) c=some (.bool (!decide (a=b))):=by simp only[b1i,ikb,c3o,e3e,bne,e3t]
@[go_sem] theorem e07:b1i E .lss t (.int k a) (.int k b) c=some (.bool (decide (a<b))):=by simp only[b1i,ikb,c3o,e3e]
@[go_sem] theorem e08:b1i E .leq t (.int k a) (.int k b) c=some (.bool (decide (a≤b))):=by simp only[b1i,ikb,c3o,e3e]
@[go_sem] theorem e09:b1i E .gtr t (.int k a) (.int k b) c=some (.bool (decide (b<a))):=by simp only[b1i,ikb,c3o,e3e]
@[go_sem] theorem e0a:b1i E .geq t (.int k a) (.int k b) c=some (.bool (decide (b≤a))):=by simp only[b1i,ikb,c3o,e3e]
@[go_sem] theorem e6a(b:Bool):(b==b)=true:=by cases b<;>rfl
@[go_sem] theorem e69:(false==true)=false:=by rfl
@[go_sem] theorem d87(ht:E.und t=some .bool):b1i E .eql t (.bool p) (.bool q) c=some (.bool (p==q)):=by simp[b1i,AV.eqShape,aeq,ht]
@[go_sem] theorem e04{op:BinOp}{x y:List UInt8}(h1:op≠ .shl:=by decide)(h2:op≠ .shr:=by decide):b1i E op t (.str x) (.str y) c=d32 op x y:=by cases op<;>first|rfl|exact absurd rfl h1|exact absurd rfl h2
@[go_sem] theorem e1t:aun .not (.bool p)=some (.bool (!p)):=by rfl
@[go_sem] theorem d4y(o:Option AObj)(r:a08):a03 (o::r) 0=o:=by simp[a03]
@[go_sem] theorem d4z(o:Option AObj)(r:a08)(n:Nat):a03 (o::r) (n+1)=a03 r n:=by simp[a03]
@[go_sem] theorem d8b(n:Nat):a03 [] n=none:=by rfl
def slT(E:Env)(t:TypeId):Option TypeId:=match E.und t with|some (.slice e)=>some e|_=>none
theorem a4u{e:TypeId}:slT E t=some e↔E.und t=some (.slice e):=by
 unfold slT;constructor
 ·intro h;split at h
  ·rename_i ew;cases h;exact ew
  ·cases h
 ·intro h;rw[h]
def b1x:Option AObj→Option (Nat×List (List AV))
 |some (.row k aa)=>some (k,aa)
 |_=>none
attribute [go_sem] b1x
def b6w(aa:List (List AV))(i:Int):Option (List AV):=if 0≤i then aa[i.toNat]? else none
@[go_sem] theorem d5t(aa:List (List AV))(n:Nat):b6w aa (n:Int)=aa[n]?:=by simp[b6w]
theorem c4i{aa:List (List AV)}{i:Int}(h:0≤i):b6w aa i=aa[i.toNat]?:=by simp[b6w,h]
def inR(i:Int)(n:Nat):Bool:=decide (0≤i)&&decide (i<n)
@[go_sem] theorem b3l(j n:Nat):inR (j:Int) n=decide (j<n):=by
 unfold inR;rw[e3d (by omega:(0:Int)≤j),e6d];by_cases h:j<n
 ·rw[e3d h,e3d (by omega)]
 ·rw[e50 h,e50 (by omega)]
theorem b7l{i:Int}{n:Nat}:c3d (.int k i) n=bif inR i n then some i.toNat else none:=rfl
@[go_sem] theorem d4t{b o n:Nat}{cp:Option Nat}(hs:(slT E t).isSome=true):b9v E h t (.slice b o n cp)=some (.int .i64 n):=by obtain⟨e,he⟩:=e24.1 hs;simp only[b9v,a4u.1 he]
@[go_sem] theorem d9z(hs:(slT E t).isSome=true):b9v E h t .nilslice=some (.int .i64 0):=by obtain⟨e,he⟩:=e24.1 hs;simp only[b9v,a4u.1 he]
def d3u(E:Env)(t:TypeId):Bool:=match E.und t with|some .string=>true|_=>false
theorem b6n:d3u E t=true→E.und t=some .string:=by
 unfold d3u;intro h;split at h
 ·rename_i ew;exact ew
 ·cases h
@[go_sem] theorem d9y{s:List UInt8}(hs:d3u E t=true):b9v E h t (.str s)=some (.int .i64 s.length):=by simp only[b9v,b6n hs]
def d6y(E:Env)(e:Option TypeId)(r:Option (List AV)):Option AV:=match e,r with
 |some e,some r=>bif isT E e&&decide (r.length=E.sz e)then some (.iptr r)else none
 |_,_=>none
attribute [go_sem] d6y
theorem b9u(a b:Nat):(a==b)=decide (a=b):=by
 by_cases h:a=b
 ·subst h;simp
 ·rw[e3o.2 h,e50 h]
@[go_sem] theorem b3n{aa:List (List AV)}{cp:Option Nat}{i:Int}:a1x E h t (.islice aa cp) (.int k i)=match slT E t with|some e=>d6y E (some e) (b6w aa i)|none=>a1x E h t (.islice aa cp) (.int k i):=by
 cases hs:slT E t with
 |none=>rfl
 |some e=>
  have hu:=a4u.1 hs;simp only[a1x,hu,b7l,inR,d6y,isT];by_cases h0:0≤i
  ·rw[e3d h0,c4i h0];by_cases h1:i<aa.length
   ·rw[e3d h1];have:i.toNat<aa.length:=by omega
    simp only[z9e this,e57,e3e,b9u];cases(E.und e).isSome<;>rfl
   ·rw[e50 h1];rw[e52 (by omega)];simp
  ·simp[h0,b6w]
def e1e(E:Env)(e:Option TypeId)(ok:Bool)(r:Option (Nat×List (List AV)))(b j:Nat):Option AV:=match e,r with
 |some e,some r=>bif isT E e&&ok&&decide (r.1=E.sz e)then some (.ptr b j 0)else none
 |_,_=>none
attribute [go_sem] e1e Int.toNat_natCast
@[go_sem] theorem d4f{b o n:Nat}{cp:Option Nat}{i:Int}:a1x E h t (.slice b o n cp) (.int k i)=match slT E t with|some e=>e1e E (some e) (inR i n) (b1x (h b)) b (o+i.toNat)|none=>a1x E h t (.slice b o n cp) (.int k i):=by
 cases hs:slT E t with
 |none=>rfl
 |some e=>
  have hu:=a4u.1 hs;simp only[a1x,hu,b7l,e1e,isT];cases hb:h b with
  |none=>cases inR i n<;>simp[b1x]
  |some o=>cases o<;>cases inR i n<;>simp[b1x,b9u];cases(E.und e).isSome<;>simp
@[go_sem] theorem e4p(n:Nat):inR 0 n=decide (0<n):=b3l 0 n
@[go_sem] theorem e0j:Int.toNat 0=0:=by rfl
@[go_sem] theorem e4o(n:Nat):inR 1 n=decide (1<n):=b3l 1 n
@[go_sem] theorem e0i:Int.toNat 1=1:=by rfl
@[go_sem] theorem e4n(n:Nat):inR 2 n=decide (2<n):=b3l 2 n
@[go_sem] theorem e0h:Int.toNat 2=2:=by rfl
@[go_sem] theorem e4m(n:Nat):inR 3 n=decide (3<n):=b3l 3 n
@[go_sem] theorem e0g:Int.toNat 3=3:=by rfl
@[go_sem] theorem e4l(n:Nat):inR 4 n=decide (4<n):=b3l 4 n
@[go_sem] theorem e0f:Int.toNat 4=4:=by rfl
@[go_sem] theorem d4u{s:List UInt8}{i:Int}(hs:d3u E t=true):b65 E t (.str s) (.int k i)=bif inR i s.length then(s[i.toNat]?).map (λb=>.int .u8 b.toNat)else none:=by
 simp only[b65,b6n hs,b7l];cases inR i s.length with
 |false=>rfl
 |true=>simp only[e3e];cases s[i.toNat]?<;>rfl
@[go_sem] theorem d4s{cs:List AV}:a7a E h t (.iptr cs)=a2q E t (cs.take (E.sz t)):=by rfl
@[go_sem] theorem d84{b i o:Nat}:a7a E h t (.ptr b i o)=a1a (b1x (h b)) λkr=>a1a (kr.2[i]?) λr=>a2q E t ((r.drop o).take (E.sz t)):=by
 unfold a7a;cases hb:h b with
 |none=>simp only[hb];rfl
 |some ob=>cases ob<;>simp only[hb,b1x,a1a];rename_i aa;cases aa[i]?<;>rfl
@[go_sem] theorem d4m{b i o:Nat}{x:AV}:a7f E h t (.ptr b i o) x=a1a (b1x (h b)) λkr=>a1a (kr.2[i]?) λr=>
 bif decide (x.cells.length=E.sz t)&&isT E t&&Nat.ble (o+x.cells.length) r.length&&x.cells.all AV.storable then some (.set b (.row kr.1 (kr.2.set i (splice r o x.cells))))else none:=by
 unfold a7f;cases hb:h b with
 |none=>simp only[hb];rfl
 |some ob=>cases ob<;>simp only[hb,b1x,a1a];rename_i aa;cases aa[i]?<;>simp only[isT,b9u]
@[go_sem] theorem e3v{n:Nat}:d3b E n t=a1a (E.zero t) λz=>bif decide (0<z.length)then some (.ptr n 0 0,.new (bif Nat.beq t E.bT then .trow t true z.length [z]else .row z.length [z]))else none:=by
 unfold d3b;cases E.zero t with
 |none=>rfl
 |some z=>simp only[a1a];cases z<;>rfl
@[go_sem] theorem e3w{n:Nat}{x:AV}:d3k n x=bif !x.isJunk&&decide (0<x.cells.length)then some (.ptr n 0 0,.new (.row x.cells.length [x.cells]))else none:=by
 have e:Nat.blt 0 x.cells.length=decide (0<x.cells.length):=by rw[e7c];simp[e3f]
 cases x<;>simp only[d3k,e,AV.isJunk,e7g,e6d,e6i,Bool.false_and,e3p]
theorem c6d(a b:Nat):Nat.ble a b=decide (a≤b):=by rw[e7c];simp[e5e]
theorem c6c(a b:Nat):Nat.blt a b=decide (a<b):=by rw[e7c];simp[e3f]
attribute [go_sem] c6d c6c
@[go_sem] theorem d8o(r:List AV)(o:Nat)(cs:List AV):splice r o cs=r.take o++cs++r.drop (o+cs.length):=by rfl
def d97(E:Env)(e:TypeId)(l c:Int):Bool:=decide (0≤l)&&decide (l≤c)&&decide (c≤281474976710656)&&decide ((E.bytes e:Int)*c≤281474976710656)
@[go_sem] theorem d0o{n:Nat}{k':IntKind}{l c:Int}:a3x E n t (.int k l) (.int k' c)=a1a (slT E t) λe=>a1a (E.zero e) λz=>bif d97 E e l c&&decide (0<z.length)then
 some (AV.slice n 0 l.toNat (some c.toNat),Eff.new (.row z.length (List.replicate c.toNat z)))else none:=by
 cases hs:slT E t with
 |none=>
  unfold a3x;unfold slT at hs;cases hu:E.und t with
  |none=>rfl
  |some d=>cases d<;>first|rfl|(rw[hu]at hs;cases hs)
 |some e=>have hu:=a4u.1 hs;simp only[a3x,hu,a1a,d97,c6c];cases E.zero e<;>rfl
@[go_sem] theorem c9c{n m:Nat}{ps:List (Nat×AV)}:a3c E n t m ps=a1a (slT E t) λe=>a1a (E.zero e) λz=>bif decide (0<z.length)&&decide (m*z.length≤16777216)then
 a1a (b4d z.length (List.replicate m z) ps) λaa=>some (AV.slice n 0 m (some m),Eff.new (.row z.length aa))else none:=by
 cases hs:slT E t with
 |none=>
  unfold a3c;unfold slT at hs;cases hu:E.und t with
  |none=>rfl
  |some d=>cases d<;>first|rfl|(rw[hu]at hs;cases hs)
 |some e=>
  have hu:=a4u.1 hs;simp only[a3c,hu,a1a];cases E.zero e with
  |none=>rfl
  |some z=>
   simp only[c6c,c6d];cases decide (0<z.length)&&decide (m*z.length≤16777216)with
   |false=>rfl
   |true=>simp only[e3e];cases b4d z.length (List.replicate m z) ps<;>rfl
@[go_sem] theorem d7z(m:Nat)(aa:List (List AV)):b4d m aa []=some aa:=by rfl
@[go_sem] theorem d4q(m:Nat)(aa:List (List AV))(i:Nat)(v:AV)(r:List (Nat×AV)):b4d m aa ((i,v)::r)=bif !v.isJunk&&decide (v.cells.length=m)&&decide (i<aa.length)then b4d m (aa.set i v.cells) r else none:=by simp only[b4d,b9u,c6c]
@[go_sem] theorem d85(pl:Nat→Option (Nat×Nat))(cs:List AV):b1f pl cs []=some cs:=by rfl
@[go_sem] theorem d4v(pl:Nat→Option (Nat×Nat))(cs:List AV)(i:Nat)(v:AV)(r:List (Nat×AV)):b1f pl cs ((i,v)::r)=a1a (pl i) λx=>bif !v.isJunk&&decide (v.cells.length=x.2)&&decide (x.1+x.2≤cs.length)then b1f pl (splice cs x.1 v.cells) r else none:=by
 simp only[b1f];cases pl i with
 |none=>rfl
 |some x=>simp only[a1a,b9u,c6d]
@[go_sem] theorem d7j{H:a08}:a9i H .none=H:=by rfl
@[go_sem] theorem d9n{H:a08}{o:AObj}:a9i H (.new o)=H++[some o]:=by rfl
@[go_sem] theorem d9m{H:a08}{b:Nat}{o:AObj}:a9i H (.set b o)=H.set b (some o):=by rfl
@[go_sem] theorem d7k{H:a08}{b:Nat}{o:AObj}:a9i H (.kill b o)=H.set b none++[some o]:=by rfl
@[go_sem] theorem d9l{n:Nat}{o:AObj}:Eff.fits n (.new o)=true:=by rfl
@[go_sem] theorem d7a{n:Nat}:Eff.fits n .none=true:=by rfl
@[go_sem] theorem d9k{n b:Nat}{o:AObj}:Eff.fits n (.set b o)=decide (b<n):=c6c b n
@[go_sem] theorem d7b{n b:Nat}{o:AObj}:Eff.fits n (.kill b o)=decide (b<n):=c6c b n
attribute [go_sem] List.all_cons List.all_nil List.set_cons_zero List.set_cons_succ List.set_nil List.replicate_zero
end
@[go_sem] theorem d7u(k:IntKind)(n:Int):AV.cells (.int k n)=[(AV.int k n)]:=by rfl
@[go_sem] theorem c9r(k:IntKind)(n:Int):AV.storable (.int k n)=true:=by rfl
@[go_sem] theorem d9c(k:IntKind)(n:Int):AV.isJunk (.int k n)=false:=by rfl
@[go_sem] theorem d3t(k:IntKind)(n:Int):a16 (.int k n)=[]:=by rfl
@[go_sem] theorem b44(s:List UInt8):AV.cells (.str s)=[(AV.str s)]:=by rfl
@[go_sem] theorem c9q(s:List UInt8):AV.storable (.str s)=true:=by rfl
@[go_sem] theorem d9b(s:List UInt8):AV.isJunk (.str s)=false:=by rfl
@[go_sem] theorem d3q(s:List UInt8):a16 (.str s)=[]:=by rfl
@[go_sem] theorem c78:AV.cells .nilslice=[AV.nilslice]:=by rfl
@[go_sem] theorem c2a:AV.storable .nilslice=true:=by rfl
@[go_sem] theorem c8d:AV.isJunk .nilslice=false:=by rfl
@[go_sem] theorem c44:a16 .nilslice=[]:=by rfl
@[go_sem] theorem d3r(b i o:Nat):a16 (.ptr b i o)=[b]:=by rfl
@[go_sem] theorem d11(l:List AV):a16 (.iptr l)=[]:=by rfl
@[go_sem] theorem d2w(b o n:Nat)(c:Option Nat):AV.cells (.slice b o n c)=[(AV.slice b o n c)]:=by rfl
@[go_sem] theorem c75(b o n:Nat)(c:Option Nat):AV.storable (.slice b o n c)=true:=by rfl
@[go_sem] theorem d4d(b o n:Nat)(c:Option Nat):AV.isJunk (.slice b o n c)=false:=by rfl
@[go_sem] theorem c9n(b o n:Nat)(c:Option Nat):a16 (.slice b o n c)=[b]:=by rfl
@[go_sem] theorem d3s(b:Nat):a16 (.map b)=[b]:=by rfl
@[go_sem] theorem d7v(l:List AV):AV.cells (.agg l)=l:=by rfl
@[go_sem] theorem d9d(l:List AV):AV.isJunk (.agg l)=false:=by rfl
@[go_sem] theorem d6m(n:Nat):Eff.keys n .none=[]:=by rfl
@[go_sem] theorem d9a(n:Nat)(o:AObj):Eff.keys n (.new o)=[n]:=by rfl
@[go_sem] theorem d99(n b:Nat)(o:AObj):Eff.keys n (.set b o)=[b]:=by rfl
@[go_sem] theorem d6n(n b:Nat)(o:AObj):Eff.keys n (.kill b o)=[b,n]:=by rfl
@[go_sem] theorem e4i:1+1=2:=by rfl
@[go_sem] theorem e4h:2+1=3:=by rfl
@[go_sem] theorem e4g:3+1=4:=by rfl
@[go_sem] theorem e4f:4+1=5:=by rfl
@[go_sem] theorem e4e:5+1=6:=by rfl
@[go_sem] theorem e4d:6+1=7:=by rfl
@[go_sem] theorem e4c:7+1=8:=by rfl
@[go_sem] theorem e4b:8+1=9:=by rfl
@[go_sem] theorem e4a:9+1=10:=by rfl
@[go_sem] theorem e37:10+1=11:=by rfl
@[go_sem] theorem e36:11+1=12:=by rfl
@[go_sem] theorem e35:12+1=13:=by rfl
@[go_sem] theorem e34:13+1=14:=by rfl
@[go_sem] theorem e33:14+1=15:=by rfl
@[go_sem] theorem e32:15+1=16:=by rfl
@[go_sem] theorem e31:16+1=17:=by rfl
@[go_sem] theorem e30:17+1=18:=by rfl
@[go_sem] theorem e2z:18+1=19:=by rfl
@[go_sem] theorem e2y:19+1=20:=by rfl
@[go_sem] theorem e2x:20+1=21:=by rfl
@[go_sem] theorem e2w:21+1=22:=by rfl
@[go_sem] theorem e2v:22+1=23:=by rfl
@[go_sem] theorem e2u:23+1=24:=by rfl
@[go_sem] theorem e2t:24+1=25:=by rfl
@[go_sem] theorem e2s:25+1=26:=by rfl
@[go_sem] theorem e2r:26+1=27:=by rfl
@[go_sem] theorem e2q:27+1=28:=by rfl
@[go_sem] theorem e2p:28+1=29:=by rfl
@[go_sem] theorem e2o:29+1=30:=by rfl
@[go_sem] theorem e2n:2+5=7:=by rfl
@[go_sem] theorem e2m:3+2=5:=by rfl
@[go_sem] theorem e2l:3+3=6:=by rfl
@[go_sem] theorem e2k:3+4=7:=by rfl
@[go_sem] theorem d8u{α:Type}(a:α):List.replicate 1 a=[a]:=by rfl
@[go_sem] theorem d8t{α:Type}(a:α):List.replicate 2 a=[a,a]:=by rfl
@[go_sem] theorem d8s{α:Type}(a:α):List.replicate 3 a=[a,a,a]:=by rfl
@[go_sem] theorem d8r{α:Type}(a:α):List.replicate 5 a=[a,a,a,a,a]:=by rfl
attribute [go_sem] List.map_cons List.map_nil List.append_nil List.nil_append List.cons_append List.length_cons List.length_nil a2l cond_true cond_false Option.map_some Option.map_none List.drop_zero List.drop_succ_cons List.take_succ_cons List.take_zero List.drop_nil List.take_nil List.getElem?_cons_zero List.getElem?_cons_succ List.getElem?_nil Nat.zero_add Nat.add_zero Nat.zero_mul Nat.mul_one decide_true decide_false Bool.and_true Bool.true_and Bool.and_false Bool.false_and Bool.or_true Bool.true_or Bool.or_false Bool.false_or Bool.not_true Bool.not_false Option.bind_some Option.isSome_some a30 decide_eq_true_eq
end Go.Ax
/- AxFlat: values that refer to no mutable block: renaming and freezing leave them; calls on them. -/
namespace Go.Ax
mutual
theorem a8f(π:Nat→Option Nat):∀(v:AV),a6g v=[]→ren π v=v
 |.ptr ..,h=>by simp[a6g]at h
 |.slice ..,h=>by simp[a6g]at h
 |.map ..,h=>by simp[a6g]at h
 |.yfn ..,h=>by simp[a6g]at h
 |.func fn fs cs,h=>by simp only[a6g,e6y]at h;simp only[ren,a6f π fs h.1,a6f π cs h.2]
 |.iface t x,h=>by simp only[a6g]at h;simp only[ren,a8f π x h]
 |.agg cs,h=>by simp only[a6g]at h;simp only[ren,a6f π cs h]
 |.tuple cs,h=>by simp only[a6g]at h;simp only[ren,a6f π cs h]
 |.junk,_|.bool _,_|.int ..,_|.str _,_|.nilptr,_|.nilslice,_|.nilmap,_|.nilfunc,_|.nilifc,_|.iptr _,_|.islice ..,_|.imap ..,_|.iset _,_=>rfl
theorem a6f(π:Nat→Option Nat):∀(l:List AV),a0x l=[]→b87 π l=l
 | [],_=>rfl
 |v::vs,h=>by simp only[a0x,e6y]at h;simp only[b87,a8f π v h.1,a6f π vs h.2]
end
theorem a5f(π:Nat→Option Nat){l:List AV}(h:a0x l=[]):l.map (ren π)=l:=by rw[←a5w];exact a6f π l h
mutual
theorem b96(m:Nat)(top:Bool)(d:AV→Option AV):∀(v:AV),a6g v=[]→a4w m top d v=some v
 |.ptr ..,h=>by simp[a6g]at h
 |.slice ..,h=>by simp[a6g]at h
 |.map ..,h=>by simp[a6g]at h
 |.yfn ..,h=>by simp[a6g]at h
 |.func fn fs cs,h=>by simp only[a6g,e6y]at h;simp only[a4w,a6i m top d fs h.1,a6i m top d cs h.2]
 |.iface t x,h=>by simp only[a6g]at h;simp only[a4w,b96 m top d x h]
 |.agg cs,h=>by simp only[a6g]at h;simp only[a4w,a6i m top d cs h]
 |.tuple cs,h=>by simp only[a6g]at h;simp only[a4w,a6i m top d cs h]
 |.junk,_|.bool _,_|.int ..,_|.str _,_|.nilptr,_|.nilslice,_|.nilmap,_|.nilfunc,_|.nilifc,_|.iptr _,_|.islice ..,_|.imap ..,_|.iset _,_=>rfl
theorem a6i(m:Nat)(top:Bool)(d:AV→Option AV):∀(l:List AV),a0x l=[]→a7i m top d l=some l
 | [],_=>rfl
 |v::vs,h=>by simp only[a0x,e6y]at h;simp only[a7i,b96 m top d v h.1,a6i m top d vs h.2]
end
def FlatR(aa:List (List AV)):Prop:=∀r∈aa,a0x r=[]
theorem FlatR.append{a b:List (List AV)}(h:FlatR a)(k:FlatR b):FlatR (a++b):=by intro x hx;simp only[e65]at hx;exact hx.elim (h x) (k x)
theorem FlatR.map{α:Type}{f:α→List AV}{l:List α}(h:∀x,a0x (f x)=[]):FlatR (l.map f):=by intro x hx;simp only[e6q]at hx;obtain⟨y,_,rfl⟩:=hx;exact h y
theorem FlatR.replicate{n:Nat}{r:List AV}(h:a0x r=[]):FlatR (List.replicate n r):=by intro x hx;rw[(List.mem_replicate.1 hx).2];exact h
theorem FlatR.drop{aa:List (List AV)}{i:Nat}(h:FlatR aa):FlatR (aa.drop i):=λx hx=>h x (List.mem_of_mem_drop hx)
theorem FlatR.take{aa:List (List AV)}{i:Nat}(h:FlatR aa):FlatR (aa.take i):=λx hx=>h x (e6f hx)
theorem a01{aa:List (List AV)}(h:FlatR aa):aa.flatMap a0x=[]:=by rw[List.flatMap_eq_nil_iff];exact h
theorem a02(π:Nat→Option Nat){aa:List (List AV)}(h:FlatR aa):aa.map (λr=>r.map (ren π))=aa:=by
 conv=>rhs;rw[←List.map_id aa]
 exact e5c λr hr=>a5f π (h r hr)
theorem a2n(m:Nat)(d:AV→Option AV):∀{aa:List (List AV)},FlatR aa→c3m m d aa=some aa
 | [],_=>rfl
 |r::rs,h=>by simp only[c3m,a6i m false d r (h r (by simp)),a2n m d (aa:=rs) (λx hx=>h x (by simp[hx]))]
/-! ### slices that are immutable, nil or not -/
def sl(c:Option (Option Nat))(aa:List (List AV)):AV:=match c,aa with
 |none,[]=>.nilslice
 |none,r::rs=>.islice (r::rs) none
 |some c,aa=>.islice aa c
@[go_sem] theorem c4c(c:Option Nat)(aa:List (List AV)):sl (some c) aa = .islice aa c:=by cases aa<;>rfl
@[go_sem] theorem d1p(c:Option (Option Nat))(aa:List (List AV)):a6g (sl c aa)=[]:=by cases c<;>cases aa<;>rfl
@[go_sem] theorem e22(π:Nat→Option Nat)(c:Option (Option Nat))(aa:List (List AV)):ren π (sl c aa)=sl c aa:=a8f π _ (d1p c aa)
@[go_sem] theorem d5b(c:Option (Option Nat))(aa:List (List AV)):a16 (sl c aa)=[]:=by cases c<;>cases aa<;>rfl
@[go_sem] theorem d15(c:Option (Option Nat))(aa:List (List AV)):(sl c aa).storable=true:=by cases c<;>cases aa<;>rfl
section
variable {E:Env}{h:FHeap}{t e:TypeId}{c:Option (Option Nat)}{aa:List (List AV)}{k:IntKind}
@[go_sem] theorem e1v(hs:(slT E t).isSome=true):b9v E h t (sl c aa)=some (.int .i64 aa.length):=by obtain⟨e,he⟩:=e24.1 hs;have ht:=a4u.1 he;cases c<;>cases aa<;>simp[sl,b9v,ht]
@[go_sem] theorem e1f{i:Int}:a1x E h t (sl c aa) (.int k i)=match slT E t with|some e=>d6y E (some e) (b6w aa i)|none=>a1x E h t (sl c aa) (.int k i):=by
 cases c with
 |some c=>rw[c4c];exact b3n
 |none=>cases aa with
  |nil=>
   cases hs:slT E t with
   |none=>rfl
   |some e=>
    have hu:=a4u.1 hs;simp only[sl,a1x,hu,d6y];cases h2:b6w [] i with
    |none=>simp
    |some r=>unfold b6w at h2;split at h2<;>simp at h2
  |cons a l=>exact b3n
end
/-! ### calls -/
@[go_sem] theorem e1p(a:AV):a3k 0 [a]=[(0,a)]:=by rfl
@[go_sem] theorem e1o(a b:AV):a3k 0 [a,b]=[(0,a),(1,b)]:=by rfl
@[go_sem] theorem e1n(a b c:AV):a3k 0 [a,b,c]=[(0,a),(1,b),(2,c)]:=by rfl
@[go_sem] theorem e1m(a b c d:AV):a3k 0 [a,b,c,d]=[(0,a),(1,b),(2,c),(3,d)]:=by rfl
theorem a93(n:Nat)(H1:a08):∀(b:Nat) (H:a08),a0n [] n H1 b H=H
 |_,[]=>rfl
 |b,o::r=>by simp only[a0n,e75,a93 n H1 (b+1) r]
theorem b9f{run:List AV→a08→Option (AV×a08)}{args:List AV}{H:a08}{v:AV}(ha:a0x args=[])(h:run args []=some (v,[]))(hv:a6g v=[]):a2u run args H=some (v,H,[]):=by
 unfold a2u;have hr:a0j H a3n (a0x args) []=[]:=by rw[ha];rfl
 simp only[hr,a25,List.all_nil,e57,e3e,a5f _ ha,a0q,e3a,h,a8f _ v hv,a93,List.drop_nil,e2h,e27]
theorem a0l{E:Env}{ai:Bool}{call:CallF}{g:FuncId}{fs cs ar args:List AV}{H:a08}{v:AV}(hx:E.ext g=false)(hf:(E.fn g).isSome=true)(he:fs++ar++cs=args)(ha:a0x args=[])(h:call g args []=some (v,[]))(hv:a6g v=[]) :
 a0e E ai call (.func (.func g) fs cs) ar H=some (v,H,[]):=by
 simp only[a0e,hx,hf,he,e3e,e3p,b9f ha h hv];cases ai
 ·rfl
 ·simp only[e6d];rw[show Nat.ble H.length H.length=true by rw[e5e];exact e2c _];rfl
@[go_sem] theorem d90(k:IntKind)(n:Int):a6g (.int k n)=[]:=by rfl
@[go_sem] theorem d61(b:Bool):a6g (.bool b)=[]:=by rfl
@[go_sem] theorem d8y(s:List UInt8):a6g (.str s)=[]:=by rfl
@[go_sem] theorem c7x:a6g .nilslice=[]:=by rfl
@[go_sem] theorem d1q:a6g .nilptr=[]:=by rfl
@[go_sem] theorem d91(l:List AV):a6g (.agg l)=a0x l:=by rfl
@[go_sem] theorem d44(l:List AV):a6g (.tuple l)=a0x l:=by rfl
@[go_sem] theorem d60(f:Fn)(a b:List AV):a6g (.func f a b)=a0x a++a0x b:=by rfl
@[go_sem] theorem d8z(b i o:Nat):a6g (.ptr b i o)=[b]:=by rfl
@[go_sem] theorem d45(b i o:Nat)(c:Option Nat):a6g (.slice b i o c)=[b]:=by rfl
@[go_sem] theorem d64:a0x []=[]:=by rfl
@[go_sem] theorem d47(v:AV)(l:List AV):a0x (v::l)=a6g v++a0x l:=by rfl
/-! ### what a loop's head keeps -/
/-! ### globals -/
end Go.Ax
/- AxBits: words of 64 bits; sums that fit. -/
namespace Go.Ax
def u64(x:BitVec 64):AV:=.int .u64 (x.toNat:Int)
section
variable {E:Env}{t:TypeId}{c:Bool}{x y:BitVec 64}{k:IntKind}
def d6w(E:Env)(t:TypeId):Option IntKind:=match E.und t with|some (.int k)=>some k|_=>none
theorem c8e{k:IntKind}:d6w E t=some k→E.und t=some (.int k):=by
 unfold d6w;intro h;split at h
 ·rename_i ew;cases h;exact ew
 ·cases h
def cvI(k:IntKind)(n:Int):AV:=.int k (k.wrap n)
@[go_sem] theorem e1r(n:Int):cvI .i64 n = .int .i64 (IntKind.i64.wrap n):=by rfl
@[go_sem] theorem d9p{h:FHeap}{s d:TypeId}{k:IntKind}{n:Int}(hs:isT E s=true):a8x E h s d (.int k n)=match d6w E d with|some k'=>some (cvI k' n)|none=>a8x E h s d (.int k n):=by
 cases hd:d6w E d with
 |none=>rfl
 |some k'=>have hu:=c8e hd;obtain⟨ds,ow⟩:=e24.1 (show(E.und s).isSome=true from hs);simp only[a8x,hu,ow];cases ds<;>simp[c9b,hu,ow,cvI]
theorem w64{n:Int}(h1:-9223372036854775808≤n)(h2:n≤9223372036854775807):IntKind.i64.wrap n=n:=IntWalk.i64_in n ⟨h1,h2⟩
end
end Go.Ax
/- AxWp: what a statement comes to, by a condition on the end. -/
namespace Go.Ax
@[go_sem] theorem d6o(F:Frm):a5x [] F=[]:=by rfl
@[go_sem] theorem d4c(s:Nat)(r:List Nat)(F:Frm):a5x (s::r) F=(s,a2h F s)::a5x r F:=by rfl
@[go_sem] theorem d6e(v:AV):a7t [v]=v:=by rfl
@[go_sem] theorem d6d(v w:AV)(l:List AV):a7t (v::w::l) = .tuple (v::w::l):=by rfl
@[go_sem] theorem d9w{E:Env}{F:Frm}{H:a08}:a1l E F H []=some []:=by rfl
@[go_sem] theorem d9v{E:Env}{F:Frm}{H:a08}(t:Nat)(r:List ResultVar):a1l E F H (.tmp t::r)=a1a (a1l E F H r) λvs=>some (a2h F t::vs):=by simp only[a1l];cases a1l E F H r<;>rfl
@[go_sem] theorem d81{E:Env}{F:Frm}{H:a08}(a t:Nat)(r:List ResultVar):a1l E F H (.cell a t::r)=a1a (a7a E (a03 H) t (a2h F a)) λv=>a1a (a1l E F H r) λvs=>some (v::vs):=by simp only[a1l];cases a7a E (a03 H) t (a2h F a)<;>cases a1l E F H r<;>rfl
abbrev b4z:=AExit→Frm→a08→Prop
def bk(id:Nat)(Q:b4z):b4z:=λe F H=>match e with|.exit i=>if i=id then Q .normal F H else Q (.exit i) F H|e=>Q e F H
def WpR:Code→Cx→Frm→a08→b4z→Prop
 |.skip,_,F,H,Q=>Q .normal F H
 |.label _,_,F,H,Q=>Q .normal F H
 |.exit id,_,F,H,Q=>Q (.exit id) F H
 |.ret,_,F,H,Q=>Q .ret F H
 |.seq a b,x,F,H,Q=>WpR a x F H λe F H=>match e with|.normal=>WpR b x F H Q|e=>Q e F H
 |.block id b,x,F,H,Q=>WpR b { x with cur:=id } F H (bk id Q)
 |.scope b,x,F,H,Q=>WpR b x F H Q
 |c,x,F,H,Q=>∃e F' H',Ev x c F H (e,F',H')∧Q e F' H'
def Wp(x:Cx)(c:Code)(F:Frm)(H:a08)(Q:b4z):Prop:=WpR c x F H Q
def sq(x:Cx)(b:Code)(Q:b4z):b4z:=λe F H=>match e with|.normal=>Wp x b F H Q|e=>Q e F H
def cx(E:Env)(M:List Fact)(m N:Nat)(g:FuncId)(cur:Nat):Cx:=⟨E,M,m,N,E.keep g,cur⟩
def lp{σ:Type}(m:Nat)(keep:List Nat)(Fs:σ→Frm)(Hs:σ→a08)(dK:σ→Nat)(Inv:σ→Prop)(n:Nat)(Q:b4z):b4z:=λe F H=>match e with|.normal=>∃s,gcD m keep F H=some (Fs s,Hs s)∧dK s<n∧Inv s|e=>Q e F H
def fq(E:Env)(g:FuncId)(m:Nat)(results:List ResultVar)(r:AV×a08):b4z:=λe F H=>match e with|.exit _=>False|_=>∃vs,a1l E F H results=some vs∧a5t (E.thaw g) m (a7t vs) H=some r
def lpJ(m:Nat)(keep:List Nat)(J:Nat→Frm→a08→Prop)(n:Nat)(Q:b4z):b4z:=λe F H=>match e with|.normal=>∃F1 H1 n',gcD m keep F H=some (F1,H1)∧n'<n∧J n' F1 H1|e=>Q e F H
@[irreducible] def d05:AV→Option Bool|.bool b=>some b|_=>none
@[go_sem] theorem e38:d05 (.bool true)=some true:=by unfold d05;rfl
@[go_sem] theorem e39:d05 (.bool false)=some false:=by unfold d05;rfl
theorem d23{v:AV}{t:Bool}(h:d05 v=some t):v = .bool t:=by
 unfold d05 at h;split at h
 ·cases h;rfl
 ·cases h
def hs(E:Env)(M:List Fact)(N:Nat):Code→Frm→a08→Frm→a08→List LogE→Bool→Prop
 |.region id au ai,F,H,F1,H1,log,t=>(a7h E ai N (sem E M) au.toList au.toList [] F H,true)=(some (F1,H1,log),t)
 |.cond c a b,F,H,F1,H1,log,t=>(d05 (opv E F c),F,H,[])=(some t,F1,H1,log)
 |_,_,_,_,_,_,_=>False
def sd:Code→List LogE→Bool
 |.region id au ai,log=>!ai||logOk au.toList log.length log
 |_,_=>true
def ct(x:Cx):Code→Bool→Frm→a08→b4z→Prop
 |.region id au ai,t,F,H,Q=>Q .normal F H
 |.cond c a b,t,F,H,Q=>Wp x (bif t then a else b) F H Q
 |_,_,_,_,_=>False
@[go_sem] theorem e60(E:Env)(M:List Fact)(N:Nat)(id au ai F H F1 H1 log t):hs E M N (.region id au ai) F H F1 H1 log t=((a7h E ai N (sem E M) au.toList au.toList [] F H,true)=(some (F1,H1,log),t)):=by rfl
@[go_sem] theorem e61(E:Env)(M:List Fact)(N:Nat)(c a b F H F1 H1 log t):hs E M N (.cond c a b) F H F1 H1 log t=((d05 (opv E F c),F,H,[])=(some t,F1,H1,log)):=by rfl
theorem wx:(∀x id au ai t F H Q,ct x (.region id au ai) t F H Q=Q .normal F H)∧(∀x c a b F H Q,ct x (.cond c a b) true F H Q=Wp x a F H Q)∧(∀x c a b F H Q,ct x (.cond c a b) false F H Q=Wp x b F H Q):=⟨λ_ _ _ _ _ _ _ _=>rfl,λ_ _ _ _ _ _ _=>rfl,λ_ _ _ _ _ _ _=>rfl⟩
theorem ww:(∀x F H Q,Wp x .skip F H Q=Q .normal F H)∧(∀x F H Q l,Wp x (.label l) F H Q=Q .normal F H)∧(∀x F H Q i,Wp x (.exit i) F H Q=Q (.exit i) F H)∧(∀x F H Q,Wp x .ret F H Q=Q .ret F H)∧
 (∀x a b F H Q,Wp x (.seq a b) F H Q=Wp x a F H (sq x b Q))∧(∀E M m N g cur i b F H Q,Wp (cx E M m N g cur) (.block i b) F H Q=Wp (cx E M m N g i) b F H (bk i Q))∧(∀x b F H Q,Wp x (.scope b) F H Q=Wp x b F H Q)∧
 (∀x b F H Q,sq x b Q .normal F H=Wp x b F H Q)∧(∀x b F H Q i,sq x b Q (.exit i) F H=Q (.exit i) F H)∧(∀x b F H Q,sq x b Q .ret F H=Q .ret F H)∧
 (∀i F H Q,bk i Q .normal F H=Q .normal F H)∧(∀i F H Q,bk i Q .ret F H=Q .ret F H)∧(∀i F H Q,bk i Q (.exit i) F H=Q .normal F H)∧(∀i j F H Q,(j=i)=False→bk i Q (.exit j) F H=Q (.exit j) F H)∧
 (∀m keep J n Q i F H,lpJ m keep J n Q (.exit i) F H=Q (.exit i) F H)∧(∀m keep J n Q F H,lpJ m keep J n Q .ret F H=Q .ret F H)∧
 (∀(σ:Type) m keep (Fs:σ→Frm) Hs dK Inv n Q i F H,lp m keep Fs Hs dK Inv n Q (.exit i) F H=Q (.exit i) F H)∧(∀(σ:Type) m keep (Fs:σ→Frm) Hs dK Inv n Q F H,lp m keep Fs Hs dK Inv n Q .ret F H=Q .ret F H)∧
 (∀a b:Code,cond true a b=a)∧(∀a b:Code,cond false a b=b)∧
 (∀x id au ai t F H Q,ct x (.region id au ai) t F H Q=Q .normal F H)∧(∀x c a b F H Q,ct x (.cond c a b) true F H Q=Wp x a F H Q)∧(∀x c a b F H Q,ct x (.cond c a b) false F H Q=Wp x b F H Q):=
 ⟨λ_ _ _ _=>rfl,λ_ _ _ _ _=>rfl,λ_ _ _ _ _=>rfl,λ_ _ _ _=>rfl,λ_ _ _ _ _ _=>rfl,λ_ _ _ _ _ _ _ _ _ _ _=>rfl,λ_ _ _ _ _=>rfl,λ_ _ _ _ _=>rfl,λ_ _ _ _ _ _=>rfl,λ_ _ _ _ _=>rfl,
  λ_ _ _ _=>rfl,λ_ _ _ _=>rfl,λi F H Q=>by simp only[bk,e3g],λi j F H Q h=>by simp only[bk,h,e76],λ_ _ _ _ _ _ _ _=>rfl,λ_ _ _ _ _ _ _=>rfl,λ_ _ _ _ _ _ _ _ _ _ _ _=>rfl,λ_ _ _ _ _ _ _ _ _ _ _=>rfl,λ_ _=>rfl,λ_ _=>rfl,wx⟩
theorem b6b:∀(c:Code) {x:Cx} {F:Frm} {H:a08} {Q:b4z},Wp x c F H Q→∃e F' H',Ev x c F H (e,F',H')∧Q e F' H':=by
 intro c
 induction c with
 |skip=>intro x F H Q h;exact⟨_,_,_,Ev.skip,h⟩
 |label l=>intro x F H Q h;exact⟨_,_,_,Ev.label,h⟩
 |exit i=>intro x F H Q h;exact⟨_,_,_,Ev.leave,h⟩
 |ret=>intro x F H Q h;exact⟨_,_,_,Ev.ret,h⟩
 |seq a b iha ihb=>
  intro x F H Q h;obtain⟨e,F',H',h1,h2⟩:=iha h;cases e with
  |normal=>obtain⟨e2,F2,H2,h3,h4⟩:=ihb h2;exact⟨e2,F2,H2,Ev.seq h1 h3,h4⟩
  |exit id=>exact⟨_,_,_,Ev.seq_exit h1,h2⟩
  |ret=>exact⟨_,_,_,Ev.seq_ret h1,h2⟩
 |block id b ih=>
  intro x F H Q h;obtain⟨e,F',H',h1,h2⟩:=ih h;cases e with
  |normal=>exact⟨_,_,_,Ev.block h1,h2⟩
  |exit i=>
   by_cases hi:i=id
   ·subst hi;simp only[bk,e3g]at h2;exact⟨_,_,_,Ev.block_exit h1,h2⟩
   ·simp only[bk,e2i hi]at h2;exact⟨_,_,_,Ev.block_on h1 (by simpa using hi),h2⟩
  |ret=>exact⟨_,_,_,Ev.block_ret h1,h2⟩
 |scope b ih=>intro x F H Q h;obtain⟨e,F',H',h1,h2⟩:=ih h;exact⟨e,F',H',Ev.scope h1,h2⟩
 |_=>intro x F H Q h;exact h
theorem d0t:∀{c:Code} {x:Cx} {F:Frm} {H:a08} {Q Q':b4z},Wp x c F H Q→(∀e F H,Q e F H→Q' e F H)→Wp x c F H Q':=by
 intro c
 induction c with
 |skip=>intro x F H Q Q' h hq;exact hq _ _ _ h
 |label l=>intro x F H Q Q' h hq;exact hq _ _ _ h
 |exit i=>intro x F H Q Q' h hq;exact hq _ _ _ h
 |ret=>intro x F H Q Q' h hq;exact hq _ _ _ h
 |seq a b iha ihb=>
  intro x F H Q Q' h hq;refine iha (Q:=sq x b Q) (Q':=sq x b Q') h ?_;intro e F H h;cases e with
  |normal=>exact ihb (x:=x) h hq
  |exit id=>exact hq _ _ _ h
  |ret=>exact hq _ _ _ h
 |block id b ih=>
  intro x F H Q Q' h hq;refine ih (Q:=bk id Q) (Q':=bk id Q') h ?_;intro e F H h;cases e with
  |normal=>exact hq _ _ _ h
  |exit i=>
   simp only[bk]at h⊢;split
   ·rename_i hi;rw[e3g hi]at h;exact hq _ _ _ h
   ·rename_i hi;rw[e2i hi]at h;exact hq _ _ _ h
  |ret=>exact hq _ _ _ h
 |scope b ih=>intro x F H Q Q' h hq;exact ih (x:=x) h hq
 |_=>intro x F H Q Q' h hq;obtain⟨e,F',H',h1,h2⟩:=h;exact⟨e,F',H',h1,hq _ _ _ h2⟩
section
variable {x:Cx}{F F1:Frm}{H H1:a08}{Q:b4z}
theorem xs{E:Env}{M:List Fact}{m N:Nat}{g:FuncId}{cur:Nat}{id au ai}{log:List LogE}(h:a7h E ai N (sem E M) au.toList au.toList [] F H=some (F1,H1,log))(hl:(!ai||logOk au.toList log.length log)=true)(hq:Q .normal F1 H1):Wp (cx E M m N g cur) (.region id au ai) F H Q:=⟨_,_,_,Ev.region h hl,hq⟩
theorem xI{E:Env}{M:List Fact}{m N:Nat}{g:FuncId}{cur:Nat}{c a b t}(hc:opv E F c = .bool t)(h:Wp (cx E M m N g cur) (bif t then a else b) F H Q):Wp (cx E M m N g cur) (.cond c a b) F H Q:=by
 cases t
 ·obtain⟨e,F',H',h1,h2⟩:=b6b _ h;exact⟨e,F',H',Ev.cond_f hc h1,h2⟩
 ·obtain⟨e,F',H',h1,h2⟩:=b6b _ h;exact⟨e,F',H',Ev.cond_t hc h1,h2⟩
theorem d51{E:Env}{M:List Fact}{m N:Nat}{g:FuncId}{cur:Nat}{keep:List Nat}{b:Code}(hk:E.keep g cur=keep)(J:Nat→Frm→a08→Prop)(n0:Nat)(h0:∃F1 H1,gcD m keep F H=some (F1,H1)∧J n0 F1 H1)
 (h:∀n F1 H1,J n F1 H1→Wp (cx E M m N g cur) b F1 H1 (lpJ m keep J n Q)):∃r:AExit×Frm×a08,Q r.1 r.2.1 r.2.2∧EvL (cx E M m N g cur) b F H r:=by
 subst hk;have key:∀n F H F1 H1,gcD m (E.keep g cur) F H=some (F1,H1)→J n F1 H1→∃r:AExit×Frm×a08,Q r.1 r.2.1 r.2.2∧EvL (cx E M m N g cur) b F H r:=by
  intro n
  induction n using Nat.strongRecOn with
  |ind n ih=>
   intro F H F1 H1 hg hJ;obtain⟨e,F',H',h1,h2⟩:=b6b _ (h n F1 H1 hJ);cases e with
   |normal=>obtain⟨F2,H2,n',g1,g2,g3⟩:=h2;obtain⟨r,hr,hl⟩:=ih n' g2 F' H' F2 H2 g1 g3;exact⟨r,hr,EvL.again (x:=cx E M m N g cur) hg h1 hl⟩
   |exit id=>exact⟨(_,_,_),h2,EvL.leave (x:=cx E M m N g cur) hg h1 (λh=>by cases h)⟩
   |ret=>exact⟨(_,_,_),h2,EvL.leave (x:=cx E M m N g cur) hg h1 (λh=>by cases h)⟩
 obtain⟨F1,H1,hg,hJ⟩:=h0;exact key n0 F H F1 H1 hg hJ
theorem e0d{E:Env}{M:List Fact}{m N:Nat}{g:FuncId}{cur:Nat}{keep:List Nat}{b:Code}(hk:E.keep g cur=keep)(J:Nat→Frm→a08→Prop)(n0:Nat)(h0:∃F1 H1,gcD m keep F H=some (F1,H1)∧J n0 F1 H1)
 (h:∀n F1 H1,J n F1 H1→Wp (cx E M m N g cur) b F1 H1 (lpJ m keep J n Q))(hz:d4i keep=false:=by rfl)(hx:a8u b=none:=by rfl):Wp (cx E M m N g cur) (.loop b) F H Q:=by
 obtain⟨⟨e,F',H'⟩,hr,hl⟩:=d51 hk J n0 h0 h;exact⟨e,F',H',Ev.loop hx (by rw[←hk]at hz;exact hz) hl,hr⟩
def fz(m:Nat)(Q:b4z):b4z:=λe F H=>Q e (c5t m H F) (c3n m H)
theorem a15{E:Env}{M:List Fact}{m N:Nat}{g:FuncId}{cur:Nat}{keep:List Nat}{b:Code}(hk:E.keep g cur=keep){σ:Type}(Fs:σ→Frm)(Hs:σ→a08)(dK:σ→Nat)(Inv:σ→Prop)(s0:σ)(h0:gcD m keep F H=some (Fs s0,Hs s0))(hi:Inv s0)
 (h:∀s,Inv s→Wp (cx E M m N g cur) b (Fs s) (Hs s) (lp m keep Fs Hs dK Inv (dK s) Q))(hz:d4i keep=false:=by rfl)(hx:a8u b=none:=by rfl):Wp (cx E M m N g cur) (.loop b) F H Q:=by
 refine e0d hk (λn F1 H1=>∃s,F1=Fs s∧H1=Hs s∧n=dK s∧Inv s) (dK s0) ⟨_,_,h0,s0,rfl,rfl,rfl,hi⟩ ?_ hz hx
 rintro n F1 H1 ⟨s,rfl,rfl,rfl,hs⟩
 refine d0t (h s hs) ?_;intro e F' H' h2;cases e with
 |normal=>obtain⟨s',g1,g2,g3⟩:=h2;exact⟨_,_,_,g1,g2,s',rfl,rfl,rfl,g3⟩
 |exit id=>exact h2
 |ret=>exact h2
theorem a2p{σ:Type}{m:Nat}{keep:List Nat}{Fs:σ→Frm}{Hs:σ→a08}{dK:σ→Nat}{Inv:σ→Prop}{n:Nat}(s:σ)(h1:gcD m keep F H=some (Fs s,Hs s))(h2:dK s<n)(h3:Inv s):lp m keep Fs Hs dK Inv n Q .normal F H:=⟨s,h1,h2,h3⟩
end
theorem d5p{E:Env}{M:List Fact}{g:FuncId}{args:List AV}{H:a08}{code:Code}{N:Nat}{results:List ResultVar}{r:AV×a08}
 (cI:E.fn g=some ⟨code,N,results⟩)(bP:∀y∈M,y.g≠g)(hN:Nat.ble args.length N=true){m:Nat}(hm:H.length=m)(h:Wp (cx E M m N g 0) code (a3k 0 args) H (fq E g m results r))(hp:E.prim g args=none:=by rfl)(hz:E.zf g=false:=by rfl)(hw:E.raw g=false:=by rfl):sem E M g args H=some r:=by
 subst hm;obtain⟨e,F',H',h1,h2⟩:=b6b _ h;obtain⟨v,H2⟩:=r;cases e with
 |normal=>obtain⟨vs,h3,h4⟩:=h2;exact c18 cI bP hN h1 (λ_ h=>by cases h) h3 h4 hp hz hw
 |ret=>obtain⟨vs,h3,h4⟩:=h2;exact c18 cI bP hN h1 (λ_ h=>by cases h) h3 h4 hp hz hw
 |exit id=>exact h2.elim
theorem xa{E:Env}{M:List Fact}{m N:Nat}{g:FuncId}{cur:Nat}{c:Code}{F F1:Frm}{H H1:a08}{log:List LogE}{t:Bool}{Q:b4z}(h:hs E M N c F H F1 H1 log t)(hl:sd c log=true)(k:ct (cx E M m N g cur) c t F1 H1 Q):Wp (cx E M m N g cur) c F H Q:=by
 cases c with
 |region id au ai=>exact xs (congrArg Prod.fst h) hl k
 |cond c a b=>have h1:opv E F c = .bool t:=d23 (congrArg Prod.fst h);have h2:(F,H,([]:List LogE))=(F1,H1,log):=congrArg Prod.snd h;cases h2;exact xI h1 k
 |_=>exact k.elim
theorem gS:(∀a b:Code,(some a).getD b=a)∧(∀l:List ResultVar,(List.toArray l).toList=l):=⟨λ_ _=>rfl,λ_=>rfl⟩
def AExit.fin:AExit→Bool
 |.exit _=>false
 |_=>true
@[go_sem] theorem e4r:AExit.ret.fin=true:=by rfl
@[go_sem] theorem e4s:AExit.normal.fin=true:=by rfl
theorem fqb{E:Env}{g:FuncId}{m:Nat}{results:List ResultVar}{r:AV×a08}{e:AExit}{F:Frm}{H:a08}(h:(bif e.fin then a1a (a1l E F H results) λvs=>a5t (E.thaw g) m (a7t vs) H else none)=some r):fq E g m results r e F H:=by
 cases ha:a1l E F H results with
 |none=>rw[ha]at h;cases e<;>cases h
 |some vs=>
  rw[ha]at h;cases e with
  |exit i=>cases h
  |_=>exact⟨vs,ha,h⟩
theorem sv{E:Env}{M:List Fact}{g:FuncId}{args:List AV}{H:a08}{r:AV×a08}(f:Func)(h:Wp (cx E M H.length f.ntmps g 0) (f.body.getD .skip) (a3k 0 args) H (fq E g H.length f.results.toList r))(cI:E.fn g=some ⟨f.body.getD .skip,f.ntmps,f.results.toList⟩:=by kernel_rfl)
 (bP:(M.all λy=>!Nat.beq y.g g)=true:=by rfl)(hN:Nat.ble args.length f.ntmps=true:=by rfl)(hp:E.prim g args=none:=by rfl)(hz:E.zf g=false:=by rfl)(hw:E.raw g=false:=by rfl):sem E M g args H=some r:=d5p cI (λy hy e=>by
 have:=e3n.1 bP y hy;rw[e]at this;simp at this) hN rfl h hp hz hw
end Go.Ax
/- AxRead: what the row's reading of an argument gives: abstract values of the argument's type. -/
namespace Go.Ax
def Typ(E:Env):Nat→TypeId→List AV→Prop
 |0,_,_=>False
 |n+1,t,b9=>match E.und t with
  |some .bool=>∃b,b9=[.bool b]
  |some (.int k)=>∃i,b9=[.int k i]∧(Lit.int k i).wf=true
  |some .string=>∃s,b9=[.str s]∧s.length≤maxLen
  |some (.slice e)=>b9=[.nilslice]∨∃aa cap,b9=[.islice aa (some cap)]∧aa.length≤cap∧cap≤maxLen∧∀r∈aa,r.length=E.sz e∧Typ E n e r
  |some (.struct fs)=>∃aL:List (List AV),b9=aL.flatten∧aL.length=fs.toList.length∧∀(i:Nat) f p,fs.toList[i]?=some f→aL[i]?=some p→p.length=E.sz f.type∧Typ E n f.type p
  |some (.array m e)=>∃aL:List (List AV),b9=aL.flatten∧aL.length=m∧∀p∈aL,p.length=E.sz e∧Typ E n e p
  |_=>False
def c45(E:Env):Nat→List Field→Option Nat
 |o,[]=>some o
 |o,f::r=>bif Nat.beq f.offset o then c45 E (o+E.sz f.type) r else none
def a4l(E:Env):Nat→TypeId→Bool
 |0,_=>false
 |n+1,t=>match E.und t with
  |some .bool=>true
  |some (.int _)=>true
  |some .string=>true
  |some (.slice e)=>(E.und e).isSome&&Nat.blt 0 (E.sz e)&&a4l E n e
  |some (.struct fs)=>(match c45 E 0 fs.toList with|some m=>Nat.beq m (E.sz t)|none=>false)&&fs.toList.all (λf=>(E.und f.type).isSome&&a4l E n f.type)
  |some (.array m e)=>(E.und e).isSome&&Nat.beq (m*E.sz e) (E.sz t)&&a4l E n e
  |_=>false
section
variable {E:Env}{w:World}{H:Type}{enc:TypeId×Value→H}{base:Nat}{d8:Nat→Bool}{eQ:Bool}
theorem a3w(ok:EnvOk E){t:TypeId}{d:TypeDesc}(h:E.und t=some d):E.P.cellsOf t=E.sz t:=by obtain⟨_,i,hi,h1,_⟩:=ok.und t d h;simp[Program.cellsOf,hi,h1]
theorem c4h{I:Nat→Prop}{k:Nat}{b:Nat}{Pr:List AV→Prop}:∀(len off:Nat),(∀i,i<len→∃r,Pr r∧r.length=k∧VAt I w noP r b (off+i*k))→
 ∃aa:List (List AV),aa.length=len∧(∀r∈aa,r.length=k∧Pr r)∧VRows I w k noP aa b off
 |0,off,_=>⟨[],rfl,by simp,by simp[VRows]⟩
 |len+1,off,h=>by
  obtain⟨r,h1,h2,h3⟩:=h 0 (by omega);obtain⟨aa,g1,g2,g3⟩:=c4h (Pr:=Pr) len (off+k) (λi hi=>by obtain⟨r,q1,q2,q3⟩:=h (i+1) (by omega);refine⟨r,q1,q2,?_⟩;rw[show off+k+i*k=off+(i+1)*k by rw[e6j];omega];exact q3);refine⟨r::aa,by simp[g1],?_,?_⟩
  ·intro x hx;simp only[e3b]at hx;rcases hx with rfl|hx
   ·exact⟨h2,h1⟩
   ·exact g2 x hx
  ·simp only[VRows];exact⟨h2,by simpa using h3,g3⟩
theorem c1i{I:Nat→Prop}{cs:List Value}{n:Nat}:∀(fs:List Field) (o:Nat) {m:Nat},c45 E o fs=some m→m≤cs.length→
 (∀f∈fs,∃b9,VRels I w noP b9 ((cs.drop f.offset).take (E.sz f.type))∧Typ E n f.type b9)→
 o≤m∧∃aL:List (List AV),aL.length=fs.length∧(∀(i:Nat) f p,fs[i]?=some f→aL[i]?=some p→p.length=E.sz f.type∧Typ E n f.type p)∧VRels I w noP aL.flatten ((cs.drop o).take (m-o))
 | [],o,m,ht,hm,_=>by simp only[c45,Option.some.injEq]at ht;subst ht;exact⟨e2c _,[],rfl,by simp,by simp[VRels]⟩
 |f::r,o,m,ht,hm,h=>by
  simp only[c45,cond_eq_ite]at ht;split at ht
  case isFalse=>cases ht
  rename_i qo;have qo:f.offset=o:=by simpa using qo
  obtain⟨aN,aL,h1,h2,h3⟩:=c1i r (o+E.sz f.type) ht hm (λg hg=>h g (by simp[hg]));obtain⟨b9,g1,g2⟩:=h f (by simp);rw[qo]at g1;have ak:b9.length=E.sz f.type:=by have:=VRels.length g1;rw[this];simp;omega
  refine⟨by omega,b9::aL,by simp[h1],?_,?_⟩
  ·intro i g p hg hp;cases i with
   |zero=>simp only[e29,Option.some.injEq]at hg hp;subst hg;subst hp;exact⟨ak,g2⟩
   |succ i=>simp only[e51]at hg hp;exact h2 i g p hg hp
  ·simp only[e5h];have:(cs.drop o).take (m-o)=(cs.drop o).take (E.sz f.type)++(cs.drop (o+E.sz f.type)).take (m-(o+E.sz f.type)):=by
    rw[show m-o=E.sz f.type+(m-(o+E.sz f.type)) by omega,List.take_add,e7h]
   rw[this];exact VRels.append g1 h3
theorem d0l{I:Nat→Prop}{cs:List Value}{n k:Nat}{e:TypeId}:∀(m o:Nat),o+m*k≤cs.length→
 (∀i,i<m→∃b9,VRels I w noP b9 ((cs.drop (o+i*k)).take k)∧Typ E n e b9)→
 ∃aL:List (List AV),aL.length=m∧(∀p∈aL,p.length=k∧Typ E n e p)∧VRels I w noP aL.flatten ((cs.drop o).take (m*k))
 |0,o,_,_=>⟨[],rfl,by simp,by simp[VRels]⟩
 |m+1,o,hl,h=>by
  have lQ:(m+1)*k=k+m*k:=by rw[e6j];omega
  obtain⟨aL,h1,h2,h3⟩:=d0l (cs:=cs) (k:=k) (e:=e) m (o+k) (by omega) (λi hi=>by obtain⟨b9,g1,g2⟩:=h (i+1) (by omega);refine⟨b9,?_,g2⟩;rw[show o+k+i*k=o+(i+1)*k by rw[e6j];omega];exact g1);obtain⟨b9,g1,g2⟩:=h 0 (by omega);rw[Nat.zero_mul,e5y]at g1;have ak:b9.length=k:=by have:=VRels.length g1;rw[this];simp;omega
  refine⟨b9::aL,by simp[h1],?_,?_⟩
  ·intro p hp;simp only[e3b]at hp;rcases hp with rfl|hp
   ·exact⟨ak,g2⟩
   ·exact h2 p hp
  ·simp only[e5h];rw[lQ,List.take_add,e7h];exact VRels.append g1 h3
theorem b74{α β:Type}{f:α→Option β}{l:List α}{r:List β}(h:l.mapM f=some r):∀x∈l,∃y,f x=some y:=by
 induction l generalizing r with
 |nil=>simp
 |cons a l ih=>
  rw[List.mapM_cons]at h;intro x hx;cases jn:f a with
  |none=>simp[jn]at h
  |some y=>
   simp only[jn,Option.bind_eq_bind,e5u]at h;cases hl:l.mapM f with
   |none=>simp[hl]at h
   |some r'=>
    simp only[e3b]at hx;rcases hx with rfl|hx
    ·exact⟨y,jn⟩
    ·exact ih hl x hx
theorem b4c{I:Nat→Prop}{b9:List AV}{cs:List Value}{b off:Nat}(hc:∀i v,cs[i]?=some v→w.cell? ⟨b,off+i,none⟩=some v)(h:VRels I w noP b9 cs):VAt I w noP b9 b off:=VAt.of_cells (λi v hv=>hc i v hv) h
theorem c4n(ok:EnvOk E):∀(n:Nat) (t:TypeId),a4l E n t=true→∀(bM:Nat) (cs:List Value) (x:DataW H×List MemPlace),DataW.trod enc E.P w base d8 eQ bM t cs=some x→
 ∃b9,VRels (Old w) w noP b9 cs∧Typ E n t b9
 |0,t,hr=>by simp[a4l]at hr
 |n+1,t,hr=>by
  intro bM cs x h;cases bM with
  |zero=>simp[DataW.trod]at h
  |succ bM=>
  have ih:=c4n ok n;unfold a4l at hr;unfold DataW.trod at h;cases hu:E.und t with
  |none=>rw[hu]at hr;simp at hr
  |some d=>
   have hP:=(ok.und t d hu).1;have bA:=a3w ok hu;rw[hu]at hr;rw[hP]at h;cases d<;>simp only[e5d]at hr
   case bool=>
    obtain⟨b,rfl⟩:∃b,cs=[.bool b]:=by split at h<;>simp_all
    exact⟨[.bool b],by simp[VRels,VRel],by simp[Typ,hu]⟩
   case int k=>
    obtain⟨i,rfl,hw⟩:∃i,cs=[.int k i]∧(Lit.int k i).wf=true:=by split at h<;>simp_all
    exact⟨[.int k i],by simp[VRels,VRel],by simp[Typ,hu,hw]⟩
   case string=>
    obtain⟨b,rfl,hw⟩:∃b:ByteArray,cs=[.string b]∧b.size≤maxLen:=by split at h<;>simp_all
    exact⟨[.str b.data.toList],by simp[VRels,VRel],by simp only[Typ,hu];exact⟨_,rfl,by simpa using hw⟩⟩
   case slice e=>
    simp only[b46,e3f]at hr;obtain⟨⟨eo,j8⟩,na⟩:=hr;obtain⟨de,cq⟩:=e24.1 eo;have iL:=a3w ok cq;have dO:cs=[.slice none 0 0]∨∃a len cap,cs=[.slice (some a) len cap]∧len≤cap∧cap≤maxLen∧
     ∃ft,((List.range len).mapM λi=>(w.cells? base (a.add (i*E.P.cellsOf e)) (E.P.cellsOf e)).bind (DataW.trod enc E.P w base d8 eQ bM e))=some ft:=by
     split at h
     all_goals first|(rename_i ew;cases ew;done)|(cases h;done)|skip
     ·left;rfl
     ·rename_i e' a len cap ew;cases ew;dsimp only at h;split at h
      case isFalse=>cases h
      rename_i hc;right;refine⟨a,len,cap,rfl,hc.2.1,hc.2.2,?_⟩;cases hm:((List.range len).mapM λi=>(w.cells? base (a.add (i*E.P.cellsOf e)) (E.P.cellsOf e)).bind (DataW.trod enc E.P w base d8 eQ bM e))with
      |none=>rw[hm]at h;simp at h
      |some ft=>exact⟨ft,rfl⟩
    rcases dO with rfl|⟨a,len,cap,rfl,eE,hcm,ft,lz⟩
    ·exact⟨[.nilslice],by simp[VRels,VRel],by simp only[Typ,hu];exact .inl trivial⟩
    ·have j6:∀i,i<len→∃r,Typ E n e r∧r.length=E.sz e∧VAt (Old w) w noP r a.block (a.off+i*E.sz e)∧a.spot=none∧a.block<w.heap.size:=by
      have ey:∀i,i<len→∃aT y,aT.length=E.sz e∧(∀j,j<E.sz e→w.cell? ((a.add (i*E.sz e)).add j)=aT[j]?)∧DataW.trod enc E.P w base d8 eQ bM e aT=some y:=by
       intro i hi;obtain⟨y,hy⟩:=b74 lz i (by simpa using hi);rw[iL]at hy;cases hc:w.cells? base (a.add (i*E.sz e)) (E.sz e)with
       |none=>rw[hc]at hy;simp at hy
       |some aT=>rw[hc]at hy;obtain⟨_,h2,h3⟩:=World.cells?_some hc;exact⟨aT,y,h2,h3,by simpa using hy⟩
      intro i hi;have gQ:a.spot=none∧a.block<w.heap.size:=by
       obtain⟨pn,y0,h1,h2,_⟩:=ey 0 (by omega);have h3:=h2 0 j8;rw[Nat.zero_mul,show(a.add 0).add 0=a from by simp[Addr.add],z9e (by omega)]at h3;unfold World.cell? at h3;split at h3
       ·rename_i hb;refine⟨?_,(e54.1 hb).1⟩;cases hs:a.spot with
        |none=>rfl
        |some _=>rw[hs]at h3;simp at h3
       ·cases h3
      obtain⟨aT,y,h1,h2,h3⟩:=ey i hi;obtain⟨r,q1,q2⟩:=ih e na bM aT y h3;refine⟨r,q2,by rw[VRels.length q1,h1],b4c ?_ q1,gQ⟩;intro j v hv;have hj:j<E.sz e:=by rw[←h1];exact(e26.1 hv).1
      have:=h2 j hj;rw[hv]at this;rw[←this]
      congr 1
      obtain⟨ab,ao,as⟩:=a;obtain⟨rfl,_⟩:=gQ;unfold Addr.add;split<;>split<;>simp_all
     obtain⟨aa,g1,g2,g3⟩:=c4h (Pr:=Typ E n e) len a.off (λi hi=>by obtain⟨r,q1,q2,q3,_⟩:=j6 i hi;exact⟨r,q1,q2,q3⟩);refine⟨[.islice aa (some cap)],?_,by simp only[Typ,hu];exact .inr ⟨aa,cap,rfl,by omega,hcm,g2⟩⟩;simp only[VRels];refine⟨_,[],rfl,?_,rfl⟩;simp only[VRel];refine⟨a,cap,E.sz e,by rw[g1],by omega,by simp,?_⟩;cases len with
     |zero=>exact .inl (e6e.1 g1)
     |succ len=>obtain⟨_,_,_,_,q4,q5⟩:=j6 0 (by omega);exact .inr ⟨q4,q5,g3⟩
   case struct fs=>
    simp only[b46,e3n]at hr;obtain⟨eo,j8⟩:=hr;split at eo
    case h_2=>cases eo
    rename_i m hm;have aF:m=E.sz t:=by simpa using eo
    have dO:cs.length=E.P.cellsOf t∧∃xs,(fs.toList.mapM λf=>DataW.trod enc E.P w base d8 eQ bM f.type ((cs.drop f.offset).take (E.P.cellsOf f.type)))=some xs:=by
     dsimp only at h;split at h
     ·rename_i hl;obtain⟨xs,cP,_⟩:=a0g h;exact⟨hl,xs,cP⟩
     ·cases h
    obtain⟨ak,xs,cP⟩:=dO;obtain⟨_,aL,h1,h2,h3⟩:=c1i (E:=E) (I:=Old w) (w:=w) (cs:=cs) (n:=n) fs.toList 0 hm (by omega) (λf hf=>by obtain⟨y,hy⟩:=b74 cP f hf;have h2:=j8 f hf;obtain⟨df,bf⟩:=e24.1 h2.1;rw[a3w ok bf]at hy;exact ih f.type h2.2 bM _ _ hy);refine⟨aL.flatten,?_,by simp only[Typ,hu];exact⟨aL,rfl,h1,h2⟩⟩;rw[e5b,Nat.sub_zero,e3c (by omega)]at h3;exact h3
   case array m e=>
    simp only[b46]at hr;obtain⟨⟨eo,j8⟩,na⟩:=hr;obtain⟨de,cq⟩:=e24.1 eo;have iL:=a3w ok cq;have lQ:m*E.sz e=E.sz t:=by simpa using j8
    have dO:cs.length=E.P.cellsOf t∧∃xs,((List.range m).mapM λi=>DataW.trod enc E.P w base d8 eQ bM e ((cs.drop (i*E.P.cellsOf e)).take (E.P.cellsOf e)))=some xs:=by
     dsimp only at h;split at h
     ·rename_i hl;obtain⟨xs,cP,_⟩:=a0g h;exact⟨hl,xs,cP⟩
     ·cases h
    obtain⟨ak,xs,cP⟩:=dO;obtain⟨aL,h1,h2,h3⟩:=d0l (E:=E) (I:=Old w) (w:=w) (cs:=cs) (n:=n) (k:=E.sz e) (e:=e) m 0 (by omega) (λi hi=>by obtain⟨y,hy⟩:=b74 cP i (by simpa using hi);rw[iL]at hy;rw[e55];exact ih e na bM _ _ hy);refine⟨aL.flatten,?_,by simp only[Typ,hu];exact⟨aL,rfl,h1,h2⟩⟩;rw[e5b,e3c (by omega)]at h3;exact h3
end
end Go.Ax
/- AxArgs: a row's arguments as abstract values. -/
namespace Go.Ax
def d4x(E:Env)(n:Nat)(t:TypeId)(av:AV):Prop:=
 match E.und t with
 |some d=>bif a2l d then ∃b9,av = .agg b9∧Typ E n t b9 else Typ E n t [av]
 |none=>False
def TypAs(E:Env)(n:Nat):List TypeId→List AV→Prop
 | [],b9=>b9=[]
 |t::ts,b9=>∃a r,b9=a::r∧d4x E n t a∧TypAs E n ts r
section
variable {E:Env}{w:World}{H:Type}{enc:TypeId×Value→H}{d8:Nat→Bool}{eQ:Bool}{b0:Nat}
theorem d80(ok:EnvOk E){n:Nat}{t:TypeId}{v:Value}{d:DataW H}{ps:List MemPlace}(hr:a4l E n t=true)(hv:Value.okWide E.P w .any b0 t v)(h:DataW.Trod enc E.P w 0 d8 eQ t v d ps) :
 ∃a,VRel (Old w) w noP a v∧d4x E n t a:=by
 obtain⟨bM,hf⟩:=h;obtain⟨b9,h1,h2⟩:=c4n ok n t hr bM _ _ hf;cases hu:E.und t with
 |none=>cases n<;>simp[a4l,hu]at hr
 |some dd=>
  have hP:=(ok.und t dd hu).1;unfold Value.okWide at hv;rw[hP]at hv;cases eU:a2l dd with
  |true=>
   have hv:∃cs,v = .agg cs∧cs.size=E.P.cellsOf t∧Row.okWide E.P w .any b0 t cs:=by cases dd<;>simp[a2l]at eU<;>exact hv
   obtain⟨cs,rfl,_,_⟩:=hv;exact⟨.agg b9,by simp only[VRel];exact⟨cs,rfl,h1⟩,by simp only[d4x,hu,eU,e3e];exact⟨b9,rfl,h2⟩⟩
  |false=>
   have cJ:v.cells = #[v]:=by
    cases v with
    |agg cs=>exfalso;cases dd<;>simp[a2l]at eU<;>simp[Cell.okWide,Cell.ok,hP]at hv
    |_=>rfl
   rw[cJ]at h1;have h3:=h1;obtain⟨a,rfl⟩:∃a,b9=[a]:=by
    have:=VRels.length h1
    match b9,this with
    | [a],_=>exact⟨a,rfl⟩
   simp only[VRels]at h3;obtain⟨c,_,hc,h4,rfl⟩:=h3;simp only[List.cons.injEq,and_true]at hc;subst hc;exact⟨a,h4,by simp only[d4x,hu,eU,e3p];exact h2⟩
theorem c6i(ok:EnvOk E){n:Nat}:∀(ts:List TypeId) (vs:List Value) (ds:List (DataW H)) (ps:List MemPlace),DataW.TrodAll enc E.P w 0 d8 eQ ts vs ds ps→
 (∀(j:Nat) t v,ts[j]?=some t→vs[j]?=some v→Value.okWide E.P w .any b0 t v)→(ts.all (a4l E n))=true→∃args,VRels (Old w) w noP args vs∧TypAs E n ts args
 | [],vs,ds,ps,h,_,_=>by
  cases vs with
  |nil=>exact⟨[],by simp[VRels],rfl⟩
  |cons v vs=>cases ds<;>simp[DataW.TrodAll]at h
 |t::ts,vs,ds,ps,h,hv,hr=>by
  cases vs with
  |nil=>cases ds<;>simp[DataW.TrodAll]at h
  |cons v vs=>
   cases ds with
   |nil=>simp[DataW.TrodAll]at h
   |cons d ds=>simp only[DataW.TrodAll]at h;obtain⟨p,q,h1,h2,_⟩:=h;simp only[List.all_cons,b46]at hr;obtain⟨a,g1,g2⟩:=d80 ok hr.1 (hv 0 t v rfl rfl) h1;obtain⟨r,g3,g4⟩:=c6i ok ts vs ds q h2 (λj t v ht jW=>hv (j+1) t v (by simpa using ht) (by simpa using jW)) hr.2;exact⟨a::r,by simp only[VRels];exact⟨v,vs,rfl,g1,g3⟩,⟨a,r,rfl,g2,g4⟩⟩
end
end Go.Ax
/- AxLaid: what a listed package-level variable d1r as, as abstract cells. -/
namespace Go.Ax
def c1v(E:Env)(f:TypeId→DataW Unit→Option (List AV)):Nat→List Field→List (DataW Unit)→Option (List AV)
 |_,[],[]=>some []
 |o,x::fs,d::ds=>bif Nat.beq x.offset o&&(E.und x.type).isSome then
  match f x.type d,c1v E f (o+E.sz x.type) fs ds with
  |some a,some b=>bif Nat.beq a.length (E.sz x.type)then some (a++b)else none
  |_,_=>none
  else none
 |_,_,_=>none
def b3s(k:Nat)(f:DataW Unit→Option (List AV)):List (DataW Unit)→Option (List (List AV))
 | []=>some []
 |d::ds=>match f d,b3s k f ds with
  |some a,some b=>bif Nat.beq a.length k then some (a::b)else none
  |_,_=>none
def b4s(E:Env):Nat→TypeId→DataW Unit→Option (List AV)
 |0,_,_=>none
 |n+1,t,d=>match E.und t,d with
  |some .bool,.lit (.bool b)=>some [.bool b]
  |some (.int k),.lit (.int k' i)=>bif k==k' then some [.int k i]else none
  |some .string,.lit (.string s)=>some [.str s]
  |some (.struct fs),.agg ds=>match c1v E (b4s E n) 0 fs.toList ds with
   |some b9=>bif Nat.beq b9.length (E.sz t)then some b9 else none
   |none=>none
  |some (.array m e),.agg ds=>bif (E.und e).isSome&&Nat.beq (m*E.sz e) (E.sz t)&&Nat.beq ds.length m then(b3s (E.sz e) (b4s E n e) ds).map List.flatten else none
  |some (.slice _),.nil=>some [.nilslice]
  |some (.slice e),.slice es d8=>bif (E.und e).isSome&&Nat.blt 0 (E.sz e)&&Nat.blt 0 es.length then(b3s (E.sz e) (b4s E n e) es).map λaa=>[.islice aa (some (es.length+d8.length))]else none
  |_,_=>none
section
variable {E:Env}{w:World}{enc:TypeId×Value→Unit}{base:Nat}{eQ:Bool}
theorem a6w{α β:Type}{f:α→Option β}{a:α}{l:List α}{r:List β}(h:(a::l).mapM f=some r):∃b r',f a=some b∧l.mapM f=some r'∧r=b::r':=by
 rw[List.mapM_cons]at h;cases jn:f a with
 |none=>simp[jn]at h
 |some y=>
  simp only[jn,Option.bind_eq_bind,e5u]at h;cases hl:l.mapM f with
  |none=>simp[hl]at h
  |some r'=>simp only[hl,e5u]at h;cases h;exact⟨y,r',rfl,rfl,rfl⟩
theorem b72{α β:Type}{f:α→Option β}:∀{l:List α} {r:List β},l.mapM f=some r→r.length=l.length
 | [],r,h=>by cases h;rfl
 |a::l,r,h=>by obtain⟨b,r',_,h2,rfl⟩:=a6w h;simp[b72 h2]
theorem b73{α β:Type}{f:α→Option β}:∀{l:List α} {r:List β},l.mapM f=some r→∀(i:Nat) a,l[i]?=some a→∃b,f a=some b∧r[i]?=some b
 | [],r,h,i,a,ha=>by simp at ha
 |x::l,r,h,i,a,ha=>by
  obtain⟨b,r',h1,h2,rfl⟩:=a6w h;cases i with
  |zero=>simp only[e29,Option.some.injEq]at ha;subst ha;exact⟨b,h1,rfl⟩
  |succ i=>simp only[e51]at ha⊢;exact b73 h2 i a ha
theorem b17{k:Nat}{f:DataW Unit→Option (List AV)}:∀{ds:List (DataW Unit)} {aa:List (List AV)},b3s k f ds=some aa→aa.length=ds.length
 | [],aa,h=>by cases h;rfl
 |d::ds,aa,h=>by
  simp only[b3s]at h;split at h
  case h_2=>cases h
  rename_i a b ha hb;rw[cond_eq_ite]at h;split at h
  ·cases h;simp[b17 hb]
  ·cases h
theorem b18{k:Nat}{f:DataW Unit→Option (List AV)}:∀{ds:List (DataW Unit)} {aa:List (List AV)},b3s k f ds=some aa→∀(i:Nat) d,ds[i]?=some d→∃a,f d=some a∧a.length=k∧aa[i]?=some a
 | [],aa,h,i,d,hd=>by simp at hd
 |x::ds,aa,h,i,d,hd=>by
  simp only[b3s]at h;split at h
  case h_2=>cases h
  rename_i a b ha hb;rw[cond_eq_ite]at h;split at h
  case isFalse=>cases h
  rename_i hk;cases h;cases i with
  |zero=>simp only[e29,Option.some.injEq]at hd;subst hd;exact⟨a,ha,by simpa using hk,rfl⟩
  |succ i=>simp only[e51]at hd⊢;exact b18 hb i d hd
theorem b3u{I:Nat→Prop}{cs:List Value}{f:TypeId→DataW Unit→Option (List AV)}{g:Field→Option (DataW Unit×List MemPlace)}
 (hg:∀x y b9,g x=some y→f x.type y.1=some b9→VRels I w noP b9 ((cs.drop x.offset).take (E.sz x.type))) :
 ∀(fs:List Field) (o:Nat) {xs:List (DataW Unit×List MemPlace)} {b9:List AV},fs.mapM g=some xs→c1v E f o fs (xs.map (·.1))=some b9→VRels I w noP b9 ((cs.drop o).take b9.length)
 | [],o,xs,b9,hm,hf=>by cases hm;cases hf;simp[VRels]
 |x::fs,o,xs,b9,hm,hf=>by
  obtain⟨y,ys,h1,h2,rfl⟩:=a6w hm;simp only[e2b,c1v]at hf;rw[cond_eq_ite]at hf;split at hf
  case isFalse=>cases hf
  rename_i hc;simp only[b46,e5a]at hc;split at hf
  case h_2=>cases hf
  rename_i a b ha hb;rw[cond_eq_ite]at hf;split at hf
  case isFalse=>cases hf
  rename_i hl;rw[e5a]at hl;cases hf;have ih:=b3u hg fs _ h2 hb;have h3:=hg x y a h1 ha;rw[hc.1,←hl]at h3;rw[e2f,List.take_add,e7h,hl]at *;exact VRels.append h3 ih
theorem b86{I:Nat→Prop}{cs:List Value}{k:Nat}:∀(aa:List (List AV)) (o:Nat),(∀(i:Nat) r,aa[i]?=some r→r.length=k∧VRels I w noP r ((cs.drop (o+i*k)).take k))→
 VRels I w noP aa.flatten ((cs.drop o).take (aa.length*k))
 | [],o,_=>by simp[VRels]
 |r::aa,o,h=>by have h0:=h 0 r rfl;have ih:=b86 aa (o+k) (λi r hr=>by have:=h (i+1) r (by simpa using hr);rw[show o+k+i*k=o+(i+1)*k by rw[e6j];omega];exact this);simp only[e5h,b94];rw[show(aa.length+1)*k=k+aa.length*k by rw[e6j];omega,List.take_add,e7h];refine VRels.append ?_ ih;simpa using h0.2
theorem b8t(ok:EnvOk E):∀(n:Nat) (t:TypeId) (bM:Nat) (cs:List Value) (x:DataW Unit×List MemPlace) (b9:List AV),DataW.trod enc E.P w base (λ_=>true) eQ bM t cs=some x→b4s E n t x.1=some b9→
 VRels (Old w) w noP b9 cs
 |0,t,bM,cs,x,b9,_,hf=>by simp[b4s]at hf
 |n+1,t,0,cs,x,b9,h,hf=>by simp[DataW.trod]at h
 |n+1,t,bM+1,cs,x,b9,h,hf=>by
  have ih:=b8t ok n;unfold b4s at hf;unfold DataW.trod at h;cases hu:E.und t with
  |none=>rw[hu]at hf;simp at hf
  |some dd=>
   have hP:=(ok.und t dd hu).1;have sV:=a3w ok hu;rw[hu]at hf;rw[hP]at h;cases dd
   case bool=>
    obtain⟨b,rfl,rfl⟩:∃b,cs=[.bool b]∧x=(.lit (.bool b),[]):=by split at h<;>simp_all
    simp only[Option.some.injEq]at hf;subst hf;simp[VRels,VRel]
   case int k=>
    obtain⟨b,rfl,rfl⟩:∃b,cs=[.int k b]∧x=(.lit (.int k b),[]):=by split at h<;>simp_all
    simp only[cond_eq_ite]at hf;split at hf
    ·cases hf;simp[VRels,VRel]
    ·cases hf
   case string=>
    obtain⟨b,rfl,rfl⟩:∃b:ByteArray,cs=[.string b]∧x=(.lit (.string b.data.toList),[]):=by split at h<;>simp_all
    simp only[Option.some.injEq]at hf;subst hf;simp[VRels,VRel]
   case struct fs=>
    dsimp only at h;split at h
    case isFalse=>cases h
    rename_i hl;obtain⟨xs,cP,rfl⟩:=a0g h;dsimp only at hf;split at hf
    case h_2=>cases hf
    rename_i ur tF;rw[cond_eq_ite]at hf;split at hf
    case isFalse=>cases hf
    rename_i tk;rw[e5a]at tk;cases hf;have key:=b3u (E:=E) (I:=Old w) (w:=w) (cs:=cs) (f:=b4s E n)
     (g:=λf=>DataW.trod enc E.P w base (λ_=>true) eQ bM f.type ((cs.drop f.offset).take (E.P.cellsOf f.type))) ?_ fs.toList 0 cP tF
    ·rw[e5b,e3c (by omega)]at key;exact key
    ·intro x y b9 hy jn;have g9:∃dx,E.und x.type=some dx:=by
      cases n with
      |zero=>simp[b4s]at jn
      |succ n=>unfold b4s at jn;cases hux:E.und x.type with
       |none=>rw[hux]at jn;simp at jn
       |some dx=>exact⟨dx,rfl⟩
     obtain⟨dx,tI⟩:=g9;rw[a3w ok tI]at hy;exact ih x.type bM _ y b9 hy jn
   case array m e=>
    dsimp only at h;split at h
    case isFalse=>cases h
    rename_i hl;obtain⟨xs,cP,rfl⟩:=a0g h;dsimp only at hf;rw[cond_eq_ite]at hf;split at hf
    case isFalse=>cases hf
    rename_i hc;simp only[b46,e5a]at hc;obtain⟨aa,aD,rfl⟩:=a0g hf;obtain⟨de,cq⟩:=e24.1 hc.1.1;have iL:=a3w ok cq;have ak:aa.length=m:=by rw[b17 aD];simpa using hc.2
    have key:=b86 (I:=Old w) (w:=w) (cs:=cs) (k:=E.sz e) aa 0 (λi r hr=>by
     have hi:i<m:=by rw[←ak];exact(e26.1 hr).1
     obtain⟨y,hy,pE⟩:=b73 cP i i (by simp[hi]);obtain⟨a,ha,qJ,oD⟩:=b18 aD i y.1 (by simp[pE]);rw[hr]at oD;cases oD;refine⟨qJ,?_⟩;rw[e55];rw[iL]at hy;exact ih e bM _ y r hy ha)
    rw[e5b,e3c (by rw[ak];omega)]at key;exact key
   case slice e=>
    split at h
    all_goals first|(rename_i ew;cases ew;done)|(cases h;done)|skip
    ·cases h;simp only[Option.some.injEq]at hf;subst hf;simp[VRels,VRel]
    ·rename_i e' a len cap ew;cases ew;dsimp only at h;split at h
     case isFalse=>cases h
     rename_i hc;cases hm:((List.range len).mapM λi=>(w.cells? base (a.add (i*E.P.cellsOf e)) (E.P.cellsOf e)).bind (DataW.trod enc E.P w base (λ_=>true) eQ bM e))with
     |none=>rw[hm]at h;simp at h
     |some ft=>
      rw[hm]at h;simp only[e5u,e78]at h;obtain⟨ag,cj,rfl⟩:=a0g h;dsimp only at hf;rw[cond_eq_ite]at hf;split at hf
      case isFalse=>cases hf
      rename_i gD;simp only[b46,e3f,b41]at gD;obtain⟨aa,aD,rfl⟩:=a0g hf;obtain⟨de,cq⟩:=e24.1 gD.1.1;have iL:=a3w ok cq;have nc:aa.length=ft.length:=by rw[b17 aD];simp
      have aN:ft.length=len:=by rw[b72 hm];simp
      have qc:ag.length=cap-len:=by rw[b72 cj];simp
      have ey:∀i,i<len→∃aT y,ft[i]?=some y∧aT.length=E.sz e∧(∀j,j<E.sz e→w.cell? ((a.add (i*E.sz e)).add j)=aT[j]?)∧DataW.trod enc E.P w base (λ_=>true) eQ bM e aT=some y:=by
       intro i hi;obtain⟨y,hy,pE⟩:=b73 hm i i (by simp[hi]);rw[iL]at hy;cases dp:w.cells? base (a.add (i*E.sz e)) (E.sz e)with
       |none=>rw[dp]at hy;simp at hy
       |some aT=>rw[dp]at hy;obtain⟨_,h2,h3⟩:=World.cells?_some dp;exact⟨aT,y,pE,h2,h3,by simpa using hy⟩
      have gQ:a.spot=none∧a.block<w.heap.size:=by
       obtain⟨pn,y0,_,h1,h2,_⟩:=ey 0 (by omega);have h3:=h2 0 gD.1.2;rw[Nat.zero_mul,show(a.add 0).add 0=a from by simp[Addr.add],z9e (by omega)]at h3;unfold World.cell? at h3;split at h3
       ·rename_i hb;refine⟨?_,(e54.1 hb).1⟩;cases hs:a.spot with
        |none=>rfl
        |some _=>rw[hs]at h3;simp at h3
       ·cases h3
      simp only[VRels];refine⟨_,[],rfl,?_,rfl⟩;simp only[VRel];refine⟨a,cap,E.sz e,by rw[nc,aN],by omega,λn hn=>by cases hn;simp;omega,.inr ⟨gQ.1,gQ.2,?_⟩⟩;have key:∀(cu:List (List AV)) (o:Nat),(∀(i:Nat) r,cu[i]?=some r→r.length=E.sz e∧VAt (Old w) w noP r a.block (a.off+(o+i)*E.sz e))→VRows (Old w) w (E.sz e) noP cu a.block (a.off+o*E.sz e):=by
       intro cu
       induction cu with
       |nil=>intro o _;simp[VRows]
       |cons r rs ihr=>intro o hh;have h0:=hh 0 r rfl;simp only[VRows];refine⟨h0.1,by simpa using h0.2,?_⟩;rw[show a.off+o*E.sz e+E.sz e=a.off+(o+1)*E.sz e by rw[e6j];omega];refine ihr (o+1) (λi r hr=>?_);have:=hh (i+1) r (by simpa using hr);rw[show o+1+i=o+(i+1) by omega];exact this
      have:=key aa 0 (λi r hr=>by
       have hi:i<len:=by rw[←aN,←nc];exact(e26.1 hr).1
       obtain⟨aT,y,h0,h1,h2,h3⟩:=ey i hi;obtain⟨av,ha,qJ,oD⟩:=b18 aD i y.1 (by simp[h0]);rw[hr]at oD;cases oD;refine⟨qJ,?_⟩;rw[e55];refine b4c ?_ (ih e bM _ y r h3 ha);intro j v hv;have hj:j<E.sz e:=by rw[←h1];exact(e26.1 hv).1
       have:=h2 j hj;rw[hv]at this;rw[←this]
       congr 1
       obtain⟨ab,ao,as⟩:=a;obtain⟨rfl,_⟩:=gQ;unfold Addr.add;split<;>split<;>simp_all)
      simpa using this
   all_goals (simp only at hf;first|(cases hf;done)|(split at hf<;>cases hf))
theorem holds_of_laid(ok:EnvOk E){laid:List (String×DataW Unit)}(h:laidMet E.P laid w)
 (hG:∀g cs,E.G g=some cs→∃x∈laid,E.P.globalNamed x.1=some g∧∃t,(E.P.globals[g]?).map (·.type)=some t∧b4s E 8 t x.2=some cs):Holds E w:=by
 obtain⟨ps,hv,dl,cJ⟩:=h;have aH:∀(l:List (String×DataW Unit)) ps,DataW.LaidVars E.P w l ps→∀x∈l,∃g t cs bM p,E.P.globalNamed x.1=some g∧(E.P.globals[g]?).map (·.type)=some t∧w.var? E.P x.1=some cs∧DataW.trod (λ_=>()) E.P w 0 (λ_=>true) false bM t cs.toList=some (x.2,p):=by
  intro l
  induction l with
  |nil=>intro ps _ x hx;simp at hx
  |cons y r ih=>
   intro ps hv x hx;obtain⟨n,d⟩:=y;simp only[DataW.LaidVars]at hv;obtain⟨g,t,cs,bM,p,q,h1,h2,h3,h4,h5,_⟩:=hv;simp only[e3b]at hx;rcases hx with rfl|hx
   ·exact⟨g,t,cs,bM,p,h1,h2,h3,h4⟩
   ·exact ih q h5 x hx
 intro g cs hg;obtain⟨x,hx,h1,t,h2,h3⟩:=hG g cs hg;obtain⟨g',t',aT,bM,p,k1,k2,k3,k4⟩:=aH laid ps hv x hx;obtain rfl:g'=g:=z9o (k1.symm.trans h1);obtain rfl:t'=t:=z9o (k2.symm.trans h2);have hr:=b8t ok 8 t' bM _ (x.2,p) cs k4 h3;unfold World.var? at k3;rw[k1]at k3;simp only[e5u]at k3;split at k3
 case h_2=>cases k3
 rename_i uM e fz ko;cases k3;refine⟨(e54.1 ko).1,?_,λ_=>?_⟩
 ·refine VAt.of_cells (cs:=aT.toList) (CellsAt.of_heap ko ?_) hr;intro j v hv;simpa using hv
 ·have hl:=VRels.length hr;rw[a1k ko,Array.getElem?_eq_none];simp at hl;omega
end
end Go.Ax
/- AxLaw: from a run of a law's body that answers true, for all d0x arguments, to what a row asks. -/
namespace Go.Ax
open Go.ChangeShapes Go.WideShapes Go.RowKit
section
variable {E:Env}{H:Type}{enc:TypeId×Value→H}
theorem a9k{P:Program}(hl:laidOutB P=true){W W':World}(hb:Below W.heap.size W W'){sp:Nat→Bool}:∀(ts:List TypeId) (vs:List Value) (ds:List (DataW H)) (ps:List MemPlace),
 (ts.all λt=>P.readableRec t&&decide (t<P.types.size))=true→(∀p∈ps,p.block<W.heap.size)→(∀p∈ps,sp p.block=true)→
 DataW.TrodAll enc P W 0 (λ_=>true) true ts vs ds ps→DataW.TrodAll enc P W' 0 sp true ts vs ds ps
 | [],vs,ds,ps,_,_,_,h=>by cases vs<;>cases ds<;>simp only[DataW.TrodAll]at h⊢<;>exact h
 |t::ts,vs,ds,ps,hr,aq,hs,h=>by
  cases vs with
  |nil=>simp[DataW.TrodAll]at h
  |cons v vs=>
   cases ds with
   |nil=>simp[DataW.TrodAll]at h
   |cons d ds=>simp only[DataW.TrodAll]at h⊢;obtain⟨p,q,h1,h2,rfl⟩:=h;simp only[List.all_cons,b46,e2d]at hr;refine⟨p,q,?_,a9k hl hb ts vs ds q hr.2 (λx hx=>aq x (by simp[hx])) (λx hx=>hs x (by simp[hx])) h2,rfl⟩;exact WideElems.Trod_stays hl hr.1.1 hr.1.2 h1 (λx hx=>hb.same (aq x (by simp[hx]))) (λx hx=>hs x (by simp[hx]))
theorem c8b{P:Program}(hl:laidOutB P=true){f:Func}{s:ChangeSpec}(iH:s.vars=[]){n:Nat}(hn:f.params.toList.length=n)
 (hs:∀ds:List (DataW H),ds.length=n→(s.fn H ds).results=[.lit (.bool true)]∧(s.fn H ds).args=ds∧(s.fn H ds).vars=[]){tb:TypeId}(ln:f.resultTypes = #[tb])(lK:P.underlying tb=some .bool)
 (mH:(f.params.toList.all λt=>P.readableRec t&&decide (t<P.types.size))=true)
 {W W':World}{args:Array Value}{ds gs:List (DataW H)}{cE:List MemPlace}(hW:DataW.Whole enc P f.params.toList s.vars false W args.toList ds gs cE)(hb:Below W.heap.size W W') :
 s.post enc P f false true false false W args (.bool true) W':=by
 have aq:∀p∈cE,p.block<W.heap.size:=λp hp=>hW.lt p hp;have a8:∀p∈cE,(λb=>decide (b<W.heap.size)) p.block=true:=λp hp=>by simpa using aq p hp
 have dF:=hW;obtain⟨p,q,hA,hV,rfl,hz,dl⟩:=hW;rw[iH]at hV;obtain⟨rfl,rfl⟩:=trodVars_none hV;have ak:ds.length=n:=by
  have:∀(ts:List TypeId) (vs:List Value) (ds:List (DataW H)) (ps:List MemPlace),DataW.TrodAll enc P W 0 (λ_=>true) true ts vs ds ps→ds.length=ts.length:=by
   intro ts
   induction ts with
   |nil=>intro vs ds ps h;cases vs<;>cases ds<;>simp[DataW.TrodAll]at h<;>rfl
   |cons t ts ih=>
    intro vs ds ps h;cases vs with
    |nil=>simp[DataW.TrodAll]at h
    |cons v vs=>cases ds with
     |nil=>simp[DataW.TrodAll]at h
     |cons d ds=>simp only[DataW.TrodAll]at h;obtain⟨p,q,_,h2,_⟩:=h;simp[ih vs ds q h2]
  rw[this _ _ _ _ hA,hn]
 obtain⟨s1,s2,s3⟩:=hs (ds++[]) (by simpa using ak);rw[e2h]at aq a8;have aV:∀sp:Nat→Bool,(∀x∈p,sp x.block=true)→DataW.TrodAll enc P W' 0 sp true f.params.toList args.toList (s.fn H (ds++[])).args p:=by intro sp cK;rw[s2,e2h];exact a9k hl hb _ _ _ _ mH aq cK hA
 have lI:∀sp:Nat→Bool,DataW.TrodVars enc P W' sp s.vars (s.fn H (ds++[])).vars []:=by intro sp;rw[s3,iH];rfl
 have eo:∀(b:Nat) (sp:Nat→Bool) (hd:Bool),DataW.TrodAll enc P W' b sp hd f.resultTypes.toList ((Value.bool true).resultList f.resultTypes.size) (s.fn H (ds++[])).results []:=by intro b sp hd;rw[s1,ln];exact⟨[],[],⟨1,by simp[DataW.trod,lK,Value.cells]⟩,rfl,rfl⟩
 refine⟨ds,[],p++[],[],p,[],dF,eo _ _ _,aV _ a8,lI _,World.keptBut_mono (λx hx=>⟨hx,?_⟩) (hb.frame (·∈p++[])),λ_=>?_⟩
 ·simpa using hx
 ·refine⟨?_,_,_,([]++p)++[],⟨[]++p,[],trodAll_append (aV _ (λ_ _=>rfl)) (eo _ _ _),lI _,rfl,?_,?_⟩,?_⟩
  ·intro j t r hj hv;rw[ln]at hj hv
   match j,hj,hv with
   |0,hj,hv=>simp[Value.resultList]at hj hv;subst hj;subst hv;exact okWide_bool_mk lK true
  ·intro b off hp;have dC:MemPlace.cell b off∈p:=by simpa using hp
   rw[hb.frozen (aq _ dC)];exact hz b off (by simpa using dC)
  ·intro ha;cases ha
  ·intro x hx _;simpa using hx
theorem law_contract(ok:EnvOk E)(hl:laidOutB E.P=true){f:FuncId}{fn:Func}{run:List AV→a08→Option (AV×a08)}(mP:f≠yId)(hf:a4h E f run){m:Nat}
 (gt:(fn.params.toList.all (a4l E m))=true)(ac:∀args,TypAs E m fn.params.toList args→∃H',run args []=some (.bool true,H'))
 {s:ChangeSpec}(iH:s.vars=[]){n:Nat}(hn:fn.params.toList.length=n)
 (hs:∀ds:List (DataW H),ds.length=n→(s.fn H ds).results=[.lit (.bool true)]∧(s.fn H ds).args=ds∧(s.fn H ds).vars=[]){tb:TypeId}(ln:fn.resultTypes = #[tb])(lK:E.P.underlying tb=some .bool)
 (mH:(fn.params.toList.all λt=>E.P.readableRec t&&decide (t<E.P.types.size))=true)
 (W:World)(base:Nat)(args:Array Value)(ds gs:List (DataW H))(cE:List MemPlace)
 (dB:∀(j:Nat) t v,fn.params[j]?=some t→args[j]?=some v→Value.okWide E.P W .any base t v)
 (hW:DataW.Whole enc E.P fn.params.toList s.vars false W args.toList ds gs cE)(hG:Holds E W) :
 Calls E.P f args W λe W'=>∃v,e = .returned v∧s.post enc E.P fn false true false false W args v W':=by
 have hA:=hW;obtain⟨p,q,hA,_⟩:=hA;obtain⟨b9,h1,h2⟩:=c6i (b0:=base) ok (n:=m) fn.params.toList args.toList ds p hA (λj t v ht hv=>dB j t v (by simpa using ht) (by simpa using hv)) gt;obtain⟨H',hr⟩:=ac b9 h2;have:=c7h mP hf hr hG h1;rw[Array.toArray_toList]at this;refine this.mono ?_
 rintro e W' ⟨rfl,hb⟩
 exact⟨_,rfl,c8b hl iH hn hs ln lK mH hW hb⟩
end
end Go.Ax
/- AxTyp: d0x abstract values, taken apart. -/
namespace Go.Ax
section
variable {E:Env}{n:Nat}{t e:TypeId}{b9:List AV}
theorem c42(hb:d3u E t=true)(h:Typ E (n+1) t b9):∃s,b9=[.str s]∧s.length≤maxLen:=by simpa only[Typ,b6n hb]using h
theorem typA_one{a:AV}(hg:b9w E t=some false)(h:d4x E n t a):Typ E n t [a]:=by
 unfold d4x at h;unfold b9w at hg;cases hu:E.und t with
 |none=>rw[hu]at h;exact h.elim
 |some d=>rw[hu]at h hg;simp only[e2a,Option.some.injEq]at hg;simpa[hg]using h
end
end Go.Ax
/- AxHeap: calls on, and loops over, heaps of a few known blocks: what is reached, renamed and put back, ar rewrite rules. -/
namespace Go.Ax
@[go_sem] theorem d48(H:a08)(n:Nat)(bj:List Nat):a0j H n [] bj=bj.reverse:=by cases n<;>rfl
theorem c2h(H:a08)(n:Nat)(b:Nat)(cY bj:List Nat):a0j H (n+1) (b::cY) bj=bif a1i bj b then a0j H n cY bj else a0j H n (a36 (a03 H b)++cY) (b::bj):=by rfl
@[go_sem] theorem d49{n:Nat}(hn:(0<n)=True)(H:a08)(b:Nat)(cY bj:List Nat):a0j H n (b::cY) bj=bif a1i bj b then a0j H (n-1) cY bj else a0j H (n-1) (a36 (a03 H b)++cY) (b::bj):=by
 obtain⟨m,rfl⟩:∃m,n=m+1:=⟨n-1,by have:=of_eq_true hn;omega⟩
 exact c2h H m b cY bj
@[go_sem] theorem a05(x:Nat):a1i [] x=false:=by rfl
@[go_sem] theorem a04(a:Nat)(r:List Nat)(x:Nat):a1i (a::r) x=bif decide (a=x)then true else a1i r x:=by simp only[a1i,c3l,b9u]
@[go_sem] theorem a18:a25 []=true:=by rfl
@[go_sem] theorem a12(a:Nat)(r:List Nat):a25 (a::r)=(!(a1i r a)&&a25 r):=by rfl
@[go_sem] theorem d46:a36 none=[]:=by rfl
@[go_sem] theorem d63(k:Nat)(aa:List (List AV)):a36 (some (.row k aa))=aa.flatMap a0x:=by rfl
@[go_sem] theorem e1d(b:Nat):List.idxOf? b []=none:=by rfl
@[go_sem] theorem d9f(a:Nat)(l:List Nat)(b:Nat):List.idxOf? b (a::l)=bif decide (a=b)then some 0 else(List.idxOf? b l).map (·+ 1):=by rw[e2g,b9u];cases decide (a=b)<;>rfl
@[go_sem] theorem e15(σ:List Nat)(b:Nat):a2w σ b=σ.idxOf? b:=by rfl
@[go_sem] theorem d7w(σ:List Nat)(n j:Nat):a1e σ n j=bif decide (j<σ.length)then σ[j]? else some (n+(j-σ.length)):=by simp only[a1e,c6c]
@[go_sem] theorem d3x(H:a08)(π:Nat→Option Nat):a0q H [] π=[]:=by rfl
@[go_sem] theorem d1a(H:a08)(b:Nat)(σ:List Nat)(π:Nat→Option Nat):a0q H (b::σ) π=(a03 H b).map (a0t π)::a0q H σ π:=by rfl
@[go_sem] theorem b8b(σ:List Nat)(n:Nat)(H1:a08)(b:Nat):a0n σ n H1 b []=[]:=by rfl
def d6a(σ:List Nat)(n:Nat)(H1:a08)(o:Option AObj):Option Nat→Option AObj
 |some j=>(a03 H1 j).map (a0t (a1e σ n))
 |none=>o
@[go_sem] theorem b8c(σ:List Nat)(n:Nat)(H1:a08)(b:Nat)(o:Option AObj)(r:a08):a0n σ n H1 b (o::r)=d6a σ n H1 o (σ.idxOf? b)::a0n σ n H1 (b+1) r:=by simp only[a0n];cases σ.idxOf? b<;>rfl
@[go_sem] theorem d43(π:Nat→Option Nat)(k:Nat)(aa:List (List AV)):a0t π (.row k aa) = .row k (aa.map λr=>r.map (ren π)):=by rfl
/- renaming a value -/
section
variable (π:Nat→Option Nat)
def a47(f:Nat→AV):Option Nat→AV|some b=>f b|none=>.junk
@[go_sem] theorem d5x(f:Nat→AV)(b:Nat):a47 f (some b)=f b:=by rfl
@[go_sem] theorem e0z(b i o:Nat):ren π (.ptr b i o)=a47 (λb=>.ptr b i o) (π b):=by simp only[ren];cases π b<;>rfl
@[go_sem] theorem d5w(b i o:Nat)(c:Option Nat):ren π (.slice b i o c)=a47 (λb=>.slice b i o c) (π b):=by simp only[ren];cases π b<;>rfl
@[go_sem] theorem e10(k:IntKind)(n:Int):ren π (.int k n) = .int k n:=by rfl
@[go_sem] theorem d8x(b:Bool):ren π (.bool b) = .bool b:=by rfl
@[go_sem] theorem e0y(s:List UInt8):ren π (.str s) = .str s:=by rfl
@[go_sem] theorem c9x:ren π .nilslice = .nilslice:=by rfl
@[go_sem] theorem d42:ren π .nilptr = .nilptr:=by rfl
@[go_sem] theorem d8v:ren π .junk = .junk:=by rfl
@[go_sem] theorem d5v(l:List AV):ren π (.tuple l) = .tuple (l.map (ren π)):=by simp only[ren,a5w]
@[go_sem] theorem d8w(f:Fn)(a b:List AV):ren π (.func f a b) = .func f (a.map (ren π)) (b.map (ren π)):=by simp only[ren,a5w]
@[go_sem] theorem a5q:c3j π []=[]:=by rfl
@[go_sem] theorem a4o(s:Nat)(v:AV)(r:Frm):c3j π ((s,v)::r)=(s,ren π v)::c3j π r:=by rfl
end
@[go_sem] theorem a7z(m:Nat)(σ:List Nat)(b:Nat):b95 m σ b=bif decide (b<m)then some b else(σ.idxOf? b).map (m + ·):=by simp only[b95,c6c]
theorem a0d{m:Nat}{keep:List Nat}{F:Frm}{H:a08}:gcD m keep F H=bif a25 (a80 m (a5x keep F) H)&&(a80 m (a5x keep F) H).all (λb=>decide (m≤b))&&decide (m≤H.length)then
 some (c3j (b95 m (a80 m (a5x keep F) H)) (a5x keep F),gcH m (a80 m (a5x keep F) H) H)else none:=by
 have e:(λb=>Nat.ble m b)=λb=>decide (m≤b):=funext λb=>c6d m b;simp only[gcD,e,c6d]
theorem a07(m:Nat)(F:Frm)(H:a08):a80 m F H=(a0j H 1000000 ((H.take m).flatMap a36++a0x (F.map (·.2))) []).filter λb=>decide (m≤b):=by have e:(λb=>Nat.ble m b)=λb=>decide (m≤b):=funext λb=>c6d m b;simp only[a80,a3n,e]
@[go_sem] theorem b1r(m:Nat)(σ:List Nat)(H:a08):gcH m σ H=(H.take m).map (Option.map (a0t (b95 m σ)))++a0q H σ (b95 m σ):=by rfl
@[go_sem] theorem e1l{α:Type}(p:α→Bool)(a:α)(l:List α):(a::l).filter p=bif p a then a::l.filter p else l.filter p:=by rw[List.filter_cons];cases p a<;>rfl
attribute [go_sem] List.reverse_cons List.reverse_nil List.filter_nil List.flatMap_cons List.flatMap_nil
theorem a0b(run:List AV→a08→Option (AV×a08))(args:List AV)(H:a08){σ:List Nat}(hσ:a0j H 1000000 (a0x args) []=σ)(hn:a25 σ=true)(hl:(σ.all λb=>decide (b<H.length))=true)
 {an:List AV}(ha:args.map (ren (a2w σ))=an){H0:a08}(hH:a0q H σ (a2w σ)=H0){v:AV}{H1:a08}(hr:run an H0=some (v,H1)) :
 a2u run args H=some (ren (a1e σ H.length) v,a0n σ H.length H1 0 H++(H1.drop σ.length).map (Option.map (a0t (a1e σ H.length))),σ):=by
 have e:(λb=>Nat.blt b H.length)=λb=>decide (b<H.length):=funext λb=>c6c b H.length;unfold a2u;simp only[a3n,hσ,hn,e,hl,e57,e3e,ha,hH,hr]
theorem a14{E:Env}{ai:Bool}{call:CallF}{g:FuncId}{fs cs ar args:List AV}{H:a08}(hx:E.ext g=false)(hf:(E.fn g).isSome=true)(he:fs++ar++cs=args){v:AV}{H':a08}{σ:List Nat}
 (h:a2u (call g) args H=some (v,H',σ))(hl:H'.length=H.length):a0e E ai call (.func (.func g) fs cs) ar H=some (v,H',σ):=by
 have hb:Nat.ble H.length H.length=true:=by rw[e5e];exact e2c _
 simp only[a0e,hx,hf,he,e3e,e3p,h,hl,hb,e6i,Bool.and_false]
theorem a2g{E:Env}{call:CallF}{g:FuncId}{fs cs ar args:List AV}{H:a08}(hx:E.ext g=false)(hf:(E.fn g).isSome=true)(he:fs++ar++cs=args){v:AV}{H':a08}{σ:List Nat}
 (h:a2u (call g) args H=some (v,H',σ)):a0e E false call (.func (.func g) fs cs) ar H=some (v,H',σ):=by
 simp only[a0e,hx,hf,he,e3e,e3p,h,Bool.false_and]
/- freezing -/
@[go_sem] theorem d1x{α β:Type}(a:α)(f:α→β)(d:β):d02 (some a) f d=f a:=by rfl
@[go_sem] theorem d7c{m:Nat}{v:AV}{H:a08}:a5t false m v H=d02 (a4w m true (a8w (a03 H) m 12) v) (λv'=>some (v',(H.take m).map (Option.map (a0t (a1v m))))) (some (v,H)):=by simp only[a5t,e3p];cases a4w m true (a8w (a03 H) m 12) v<;>rfl
section
variable {m:Nat}{top:Bool}{d:AV→Option AV}{h:FHeap}{n:Nat}
@[go_sem] theorem e1i(k:IntKind)(i:Int):a4w m top d (.int k i)=some (.int k i):=by rfl
@[go_sem] theorem d9h(b:Bool):a4w m top d (.bool b)=some (.bool b):=by rfl
@[go_sem] theorem e1h(s:List UInt8):a4w m top d (.str s)=some (.str s):=by rfl
@[go_sem] theorem d0b:a4w m top d .nilslice=some .nilslice:=by rfl
@[go_sem] theorem e1j(l:List AV):a4w m top d (.agg l)=a1a (a7i m top d l) λl=>some (.agg l):=by simp only[a4w];cases a7i m top d l<;>rfl
@[go_sem] theorem d75(l:List AV):a4w m top d (.tuple l)=a1a (a7i m top d l) λl=>some (.tuple l):=by simp only[a4w];cases a7i m top d l<;>rfl
@[go_sem] theorem d9i:a7i m top d []=some []:=by rfl
@[go_sem] theorem d77(v:AV)(l:List AV):a7i m top d (v::l)=a1a (a4w m top d v) λv=>a1a (a7i m top d l) λl=>some (v::l):=by simp only[a7i];cases a4w m top d v<;>cases a7i m top d l<;>rfl
@[go_sem] theorem d76(b o l:Nat)(c:Option Nat):a4w m top d (.slice b o l c)=bif decide (b<m)then(bif top then some (.slice b o l c)else none)else d (.slice b o l c):=by simp only[a4w,d2g,c6c]
@[go_sem] theorem d4h(hn:(0<n)=True)(b o l:Nat)(c:Option Nat):a8w h m n (.slice b o l c)=a1a (b1x (h b)) λkr=>bif decide (o+l≤kr.2.length)then a1a (c3m m (a8w h m (n-1)) ((kr.2.drop o).take l)) λrs=>some (.islice rs c)else none:=by
 obtain⟨n,rfl⟩:∃k,n=k+1:=⟨n-1,by have:=of_eq_true hn;omega⟩
 simp only[a8w,Nat.add_sub_cancel];cases hb:h b with
 |none=>simp only[hb];rfl
 |some ob=>cases ob<;>simp only[hb,b1x,a1a,c6d];rename_i kk aa;cases c3m m (a8w h m n) ((aa.drop o).take l)<;>rfl
end
/-! ### append -/
section
variable {E:Env}{h:FHeap}{n:Nat}
@[go_sem] theorem d35(k b o l:Nat)(c:Option Nat):a3b h k (.slice b o l c)=a1a (b1x (h b)) λkr=>bif decide (kr.1=k)&&decide (o+l≤kr.2.length)then some ((kr.2.drop o).take l)else none:=by
 simp only[a3b];cases hb:h b with
 |none=>simp only[hb];rfl
 |some ob=>cases ob<;>simp only[hb,b1x,a1a,b9u,c6d]
def apT(E:Env)(st xt:TypeId):Option TypeId:=match E.und st,E.und xt with
 |some (.slice e),some dx=>bif a2s dx || !(E.zero e).isSome || !(Nat.blt 0 (E.sz e))then none else some e
 |_,_=>none
def apS(E:Env)(h:FHeap)(n:Nat)(af:TypeId)(xs:List (List AV)):AV→Option (AV×Eff)
 |.nilslice=>match xs with
  | []=>some (.nilslice,.none)
  |y::ys=>bif a2j E af (y::ys).length then some (.slice n 0 (y::ys).length none,.new (.row (E.sz af) (y::ys)))else none
 |.islice aa cap=>bif aa.all (λr=>r.length==E.sz af)then match xs with
  | []=>some (.islice aa cap,.none)
  |y::ys=>match cap with
   |some c=>bif Nat.blt c (aa.length+(y::ys).length)&&a2j E af (aa.length+(y::ys).length)then
    some (.slice n 0 (aa.length+(y::ys).length) none,.new (.row (E.sz af) (aa++(y::ys))))else none
   |none=>none
  else none
 |.slice b off len cap=>match h b with
  |some (.row kk aa)=>bif kk==E.sz af&&Nat.ble (off+len) aa.length then
   match cap with
   |none=>bif a2j E af (len+xs.length)&&xs.all (λr=>r.all AV.storable)then
    some (.slice n 0 (len+xs.length) none,.kill b (.row (E.sz af) (bif Nat.beq (off+len) aa.length then aa.drop off++xs else(aa.drop off).take len++xs)))else none
   |some c=>bif Nat.ble (len+xs.length) c then
    bif Nat.ble (off+len+xs.length) aa.length&&xs.all (λr=>r.all AV.storable)then
     some (.slice b off (len+xs.length) (some c),.set b (.row (E.sz af) (aa.take (off+len)++xs++aa.drop (off+len+xs.length))))else none
    else bif a2j E af (len+xs.length)then
     some (.slice n 0 (len+xs.length) none,.new (.row (E.sz af) ((aa.drop off).take len++xs)))else none
   else none
  |_=>none
 |_=>none
@[go_sem] theorem d88(st xt:TypeId)(s x:AV):a44 E h n st xt s x=a1a (apT E st xt) λe=>a1a (a3b h (E.sz e) x) λxs=>apS E h n e xs s:=by
 unfold a44 apT;cases E.und st with
 |none=>rfl
 |some d=>cases E.und xt with
  |none=>cases d<;>rfl
  |some dx=>
   cases d<;>try rfl
   rename_i e;simp only;cases(a2s dx || !(E.zero e).isSome || !(Nat.blt 0 (E.sz e)))with
   |true=>rfl
   |false=>
    simp only[e3p,a1a];cases a3b h (E.sz e) x with
    |none=>rfl
    |some xs=>cases s<;>rfl
@[go_sem] theorem e1u(e:TypeId)(y:List AV)(ys:List (List AV)):apS E h n e (y::ys) .nilslice=bif a2j E e (y::ys).length then some (.slice n 0 (y::ys).length none,.new (.row (E.sz e) (y::ys)))else none:=by rfl
@[go_sem] theorem d9x(e:TypeId)(xs:List (List AV))(b o l:Nat):apS E h n e xs (.slice b o l none)=a1a (b1x (h b)) λkr=>
 bif decide (kr.1=E.sz e)then(bif decide (o+l=kr.2.length)then(bif a2j E e (l+xs.length)&&xs.all (λr=>r.all AV.storable)then some (.slice n 0 (l+xs.length) none,.kill b (.row (E.sz e) (kr.2.drop o++xs)))else none)
  else(bif decide (o+l≤kr.2.length)&&a2j E e (l+xs.length)&&xs.all (λr=>r.all AV.storable)then some (.slice n 0 (l+xs.length) none,.kill b (.row (E.sz e) ((kr.2.drop o).take l++xs)))else none))else none:=by
 simp only[apS];cases hb:h b with
 |none=>simp only[hb];rfl
 |some ob=>
  cases ob<;>simp only[hb,b1x,a1a,b9u,c6d];rename_i kk aa;have e1:Nat.beq (o+l) aa.length=decide (o+l=aa.length):=by rw[c3l,b9u]
  rw[e1];by_cases h1:o+l=aa.length
  ·rw[e3d h1,e3d (by omega:o+l≤aa.length)];cases decide (kk=E.sz e)<;>rfl
  ·rw[e50 h1];cases decide (kk=E.sz e)<;>cases decide (o+l≤aa.length)<;>rfl
@[go_sem] theorem d82(e:TypeId)(xs:List (List AV))(b o l c:Nat):apS E h n e xs (.slice b o l (some c))=a1a (b1x (h b)) λkr=>
 bif decide (kr.1=E.sz e)&&decide (o+l≤kr.2.length)then(bif decide (l+xs.length≤c)then
  (bif decide (o+l+xs.length≤kr.2.length)&&xs.all (λr=>r.all AV.storable)then some (.slice b o (l+xs.length) (some c),.set b (.row (E.sz e) (kr.2.take (o+l)++xs++kr.2.drop (o+l+xs.length))))else none)
  else(bif a2j E e (l+xs.length)then some (.slice n 0 (l+xs.length) none,.new (.row (E.sz e) ((kr.2.drop o).take l++xs)))else none))else none:=by
 simp only[apS];cases hb:h b with
 |none=>simp only[hb];rfl
 |some ob=>cases ob<;>simp only[hb,b1x,a1a,b9u,c6d]
theorem a91{e:TypeId}{k:Nat}(hk:k≤1000000000)(hb:E.bytes e≤1000):a2j E e k=true:=by
 unfold a2j;rw[e3d (by omega),e6d,e2d]
 calc E.bytes e*(2*k+192)≤1000*(2*1000000000+192):=Nat.mul_le_mul hb (by omega)
  _≤281474976710656:=by decide
end
/- The length of a block's rows, by hand. -/
theorem c2j(m b:Nat):a1v m b=bif decide (b<m)then some b else none:=by simp only[a1v,c6c]
attribute [go_sem] c2j
/-! ### bytes to a string -/
section
variable {E:Env}{h:FHeap}{s d:TypeId}
end
attribute [go_sem] List.length_replicate List.map_replicate List.length_append List.flatMap_append List.map_append
/-! ### calls that only read -/
def FlatO(o:Option AObj):Prop:=∀π,o.map (a0t π)=o
theorem FlatO.row{k:Nat}{aa:List (List AV)}(h:FlatR aa):FlatO (some (.row k aa)):=λπ=>by simp only[e2a,a0t,a02 π h]
theorem c72(f:Nat→Option AObj)(σ:List Nat)(j:Nat):a03 (σ.map f) j=(σ[j]?).bind f:=by simp only[a03,e2e];cases σ[j]?<;>simp
theorem b1o{σ:List Nat}{n:Nat}{H:a08}(hf:∀b∈σ,FlatO (a03 H b)):∀(b:Nat) (H2:a08),(∀i,H2[i]?=H[b+i]?)→a0n σ n (σ.map (a03 H)) b H2=H2
 |_,[],_=>rfl
 |b,o::r,hh=>by
  have ih:=b1o hf (n:=n) (b+1) r (λi=>by
   have:=hh (i+1);rw[e51]at this;rw[this]
   congr 1
   omega)
  simp only[a0n,ih]
  congr 1
  cases hx:σ.idxOf? b with
  |none=>rfl
  |some j=>simp only;have hj:=a2t hx;have hm:b∈σ:=e25 hj;rw[c72,hj];simp only[e5u];rw[hf b hm _];have h0:=hh 0;simp only[e29,e5y]at h0;simp[a03,←h0]
theorem a59{E:Env}{ai:Bool}{call:CallF}{g:FuncId}{fs cs ar args:List AV}{H:a08}{v:AV}(σ:List Nat)(hx:E.ext g=false)(hf:(E.fn g).isSome=true)(he:fs++ar++cs=args)
 (hσ:a0j H 1000000 (a0x args) []=σ)(hn:a25 σ=true)(hl:(σ.all λb=>decide (b<H.length))=true)(dz:∀b∈σ,FlatO (a03 H b))
 {an:List AV}(ha:args.map (ren (a2w σ))=an){H0:a08}(hH:σ.map (a03 H)=H0)(hr:call g an H0=some (v,H0))(hv:a6g v=[]) :
 a0e E ai call (.func (.func g) fs cs) ar H=some (v,H,σ):=by
 have hs:a0q H σ (a2w σ)=H0:=by rw[←hH];unfold a0q;exact e5c λb hb=>dz b hb _
 have hc:=a0b (call g) args H hσ hn hl ha hs hr;have e1:ren (a1e σ H.length) v=v:=a8f _ v hv;have e2:a0n σ H.length H0 0 H=H:=by rw[←hH];exact b1o dz 0 H (λi=>by rw[e55])
 have e3:H0.drop σ.length=[]:=by rw[←hH];simp
 rw[e1,e2,e3,e3a,e2h]at hc;exact a14 hx hf he hc rfl
end Go.Ax
/- AxMore: facts that all say 'true'; loops over any states; what a heap's values a0j. -/
namespace Go.Ax
/-! ### what is reached -/
end Go.Ax
/- AxSup: closed runs over facts of calls, a5u a given fact. -/
namespace Go.Ax
def b4y(E:Env)(x:Fact):Prop:=sem E [] x.g x.args []=some (x.v,[])
theorem b6q{E:Env}{g:FuncId}{args:List AV}{v:AV}:∀{M:List Fact},(∀x∈M,b4y E x)→d3z M g args=some v→sem E [] g args []=some (v,[])
 | [],_,h=>by simp[d3z]at h
 |x::r,hM,h=>by
  simp only[d3z,cond_eq_ite]at h;split at h
  ·rename_i hc;simp only[b46,e5a]at hc;cases h;have:=hM x (by simp);obtain⟨g',a',v'⟩:=x;simp only at hc this;have h1:=hc.1;have h2:=b3v _ _ hc.2;subst h1;subst h2;exact this
  ·exact b6q (λx hx=>hM x (by simp[hx])) h
theorem a6b{E:Env}{c:CallF}(hc:CallF.le c (sem E []))(lf:Nat):CallF.le (a6c E c lf) (sem E []):=λg args H r h=>a90 (λ_ h=>by cases h) lf (b0s hc (e2c lf) h)
theorem b3b{E:Env}{M:List Fact}(hM:∀x∈M,b4y E x):∀n,CallF.le (c52 E M n) (sem E [])
 |0=>λg args H r h=>by simp[c52]at h
 |n+1=>λg args H r h=>by
  have h:e19 M (a6c E (c52 E M n) (n+1)) g args H=some r:=h;unfold e19 at h;split at h
  ·split at h
   ·rename_i v hs;cases h;exact b6q hM hs
   ·exact a6b (b3b hM n) _ _ _ _ _ h
  ·exact a6b (b3b hM n) _ _ _ _ _ h
theorem c4f{E:Env}{M:List Fact}(hM:∀x∈M,b4y E x)(n:Nat){g:Nat}{args:List AV}{v:AV}(h:a6c E (c52 E M n) n g args []=some (v,[])):b4y E ⟨g,args,v⟩:=a6b (b3b hM n) n _ _ _ _ h
theorem a9o{E:Env}:∀x∈([]:List Fact),b4y E x:=by simp
theorem c4d{E:Env}{x:Fact}{M:List Fact}(hx:b4y E x)(hM:∀x∈M,b4y E x):∀y∈x::M,b4y E y:=by
 intro y hy;simp only[e3b]at hy;rcases hy with rfl|hy
 ·exact hx
 ·exact hM y hy
end Go.Ax
/- AxGrow: grown slices; calls that read one block. -/
namespace Go.Ax
def grV(b:Nat):List (List AV)→AV|[]=>.nilslice|_::rs=>.slice b 0 (rs.length+1) none
def grH(k:Nat):List (List AV)→a08|[]=>[]|r::rs=>[some (.row k (r::rs))]
theorem a0p(b:Nat):grV b [] = .nilslice:=by rfl
theorem a0u(k:Nat):grH k []=[]:=by rfl
theorem a1t(b:Nat)(r:List AV)(rs:List (List AV)):grV b (r::rs) = .slice b 0 (rs.length+1) none:=by rfl
theorem a1q(k:Nat)(r:List AV)(rs:List (List AV)):grH k (r::rs)=[some (.row k (r::rs))]:=by rfl
theorem a42(b:Nat)(l:List (List AV))(x:List AV):grV b (l++[x]) = .slice b 0 (l.length+1) none:=by cases l<;>simp[grV]
theorem a43(k:Nat)(l:List (List AV))(x:List AV):grH k (l++[x])=[some (.row k (l++[x]))]:=by cases l<;>simp[grH]
theorem a0h(b:Nat){l:List (List AV)}(h:l≠[]):grV b l = .slice b 0 l.length none:=by cases l with|nil=>exact absurd rfl h|cons a r=>rfl
theorem a0y(k:Nat){l:List (List AV)}(h:l≠[]):grH k l=[some (.row k l)]:=by cases l with|nil=>exact absurd rfl h|cons a r=>rfl
theorem a7q{H:a08}{b:Nat}(hr:a36 (a03 H b)=[]):a0j H 1000000 [b] []=[b]:=by
 have e1:∀n,a0j H (n+2) [b] []=[b]:=by intro n;unfold a0j;simp only[a1i,e3p,hr,e2h];unfold a0j;rfl
 exact e1 999998
theorem a2f{E:Env}{ai:Bool}{call:CallF}{g:FuncId}{fs cs ar args:List AV}{H:a08}{v:AV}{b:Nat}{o:AObj}(hx:E.ext g=false)(hf:(E.fn g).isSome=true)(he:fs++ar++cs=args)
 (hb:a03 H b=some o)(ho:a36 (some o)=[])(dz:FlatO (some o))(aV:a0x args=[b]){an:List AV}(ha:args.map (ren (a2w [b]))=an)(hr:call g an [some o]=some (v,[some o]))(hv:a6g v=[]) :
 a0e E ai call (.func (.func g) fs cs) ar H=some (v,H,[b]):=by
 have aq:b<H.length:=by
  unfold a03 at hb;cases hh:H[b]? with
  |none=>rw[hh]at hb;cases hb
  |some x=>exact(e26.1 hh).1
 refine a59 [b] hx hf he (by rw[aV];exact a7q (by rw[hb];exact ho)) rfl (by simpa using aq) ?_ ha (by simp only[e2b,e3a,hb]) hr hv;intro c hc;simp only[e3r]at hc;subst hc;rw[hb];exact dz
theorem a0o{k:Nat}{aa:List (List AV)}(h:FlatR aa):a36 (some (.row k aa))=[]:=by simp only[a36];exact a01 h
theorem a0v{H:a08}{b:Nat}{o:AObj}(hb:a03 H b=some o):b<H.length:=by
 unfold a03 at hb;cases hh:H[b]? with
 |none=>rw[hh]at hb;cases hb
 |some x=>exact(e26.1 hh).1
theorem b34(b n:Nat)(o:Option AObj)(ho:∀π,o.map (a0t π)=o):∀(s:Nat) (H:a08),s≤b→a0n [b] n [o] s H=H.set (b-s) o
 |s,[],_=>by simp[a0n]
 |s,x::H,hs=>by
  simp only[a0n];by_cases mA:s=b
  ·subst mA;have e:([s]:List Nat).idxOf? s=some 0:=by simp[e2g]
   have cj:∀(t:Nat) (H:a08),s<t→a0n [s] n [o] t H=H:=by
    intro t H
    induction H generalizing t with
    |nil=>intro _;rfl
    |cons y H ih=>
     intro ht;have e2:([s]:List Nat).idxOf? t=none:=by simp[e2g];omega
     simp only[a0n,e2,ih (t+1) (by omega)]
   simp only[e,cj (s+1) H (by omega),Nat.sub_self,List.set_cons_zero]
   congr 1
   exact ho _
  ·have e:([b]:List Nat).idxOf? s=none:=by simp[e2g];omega
   have e2:b-s=(b-(s+1))+1:=by omega
   rw[e2,List.set_cons_succ];simp only[e,b34 b n o ho (s+1) H (by omega)]
theorem a0z{E:Env}{ai:Bool}{call:CallF}{g:FuncId}{fs cs ar args:List AV}{H:a08}{v v':AV}{b:Nat}{o o':AObj}(hx:E.ext g=false)(hf:(E.fn g).isSome=true)(he:fs++ar++cs=args)
 (hb:a03 H b=some o)(ho:a36 (some o)=[])(dz:FlatO (some o))(aV:a0x args=[b]){an:List AV}(ha:args.map (ren (a2w [b]))=an)(hr:call g an [some o]=some (v,[some o']))(qp:FlatO (some o'))(hv:ren (a1e [b] H.length) v=v') :
 a0e E ai call (.func (.func g) fs cs) ar H=some (v',H.set b (some o'),[b]):=by
 have aq:=a0v hb;have hc:=a0b (call g) args H (σ:=[b]) (by rw[aV];exact a7q (by rw[hb];exact ho)) rfl (by simpa using aq) ha (H0:=[some o]) (by simp only[a0q,e2b,e3a,hb];congr 1;exact dz _) hr;rw[hv,b34 b _ _ qp 0 H (e3h _)]at hc;simp only[Nat.sub_zero,List.drop_succ_cons,e5b,e3a,e2h,b94,e27]at hc;exact a14 hx hf he hc (by simp)
theorem c2f(b o l:Nat)(c:Option Nat):ren (a2w [b]) (.slice b o l c) = .slice 0 o l c:=by simp[ren,a2w]
/-! ### slices of slices -/
def inB(i:Int)(n:Nat):Bool:=decide (0≤i)&&decide (i≤(n:Int))
@[go_sem] theorem c5m(a n:Nat):inB (a:Int) n=decide (a≤n):=by unfold inB;rw[e3d (by omega),e6d,e7c,e2d,e2d];omega
@[go_sem] theorem e4q(n:Nat):inB 0 n=true:=by simp[inB]
theorem a8r{k:IntKind}{i:Int}{n d:Nat}:a1n (some (.int k i)) n d=bif inB i n then some i.toNat else none:=by rfl
attribute [go_sem] Option.map_some Option.map_none
section
variable {E:Env}{h:FHeap}{t:TypeId}
theorem b2l{x:AV}{lo hi mx:Option AV}(hs:slT E t=none)(hx:∀s,x≠ .str s)(hy:∀cs,x≠ .iptr cs:=by intro _ h;cases h):a3q E h t x lo hi mx=none:=by
 unfold a3q;unfold slT at hs;cases hu:E.und t with
 |none=>rfl
 |some d=>rw[hu]at hs;cases d<;>first|(cases hs;done)|(cases x<;>first|rfl|exact absurd rfl (hx _)|exact absurd rfl (hy _))
@[go_sem] theorem d33{k k':IntKind}{i j:Int}:a3q E h t .nilslice none (some (.int k i)) (some (.int k' j))=a1a (slT E t) λe=>bif isT E e&&inB j 0&&inB i j.toNat then some .nilslice else none:=by
 cases hs:slT E t with
 |none=>exact b2l hs (λ_ h=>by cases h)
 |some e=>simp only[a3q,a4u.1 hs,a1a,a8r,isT];cases(E.und e).isSome<;>cases inB j 0<;>first|rfl|(simp only[e3e,e6d];cases inB i j.toNat<;>rfl)
@[go_sem] theorem d4p{b o n:Nat}{c:Option Nat}{k k':IntKind}{i j:Int}:a3q E h t (.slice b o n c) none (some (.int k i)) (some (.int k' j))=a1a (slT E t) λe=>a1a (b1x (h b)) λkr=>bif isT E e&&decide (kr.1=E.sz e)&&inB j (a27 n c)&&inB i j.toNat then some (.slice b o i.toNat (some j.toNat))else none:=by
 cases hs:slT E t with
 |none=>exact b2l hs (λ_ h=>by cases h)
 |some e=>
  simp only[a3q,a4u.1 hs,a1a,a8r,isT];cases hb:h b with
  |none=>cases(E.und e).isSome<;>rfl
  |some ob=>cases ob with
   |map=>cases(E.und e).isSome<;>rfl
   |siter=>cases(E.und e).isSome<;>rfl
   |uset=>cases(E.und e).isSome<;>rfl
   |miter=>cases(E.und e).isSome<;>rfl
   |yloop=>cases(E.und e).isSome<;>rfl
   |trow=>cases(E.und e).isSome<;>rfl
   |row kk aa=>simp only[b1x,b9u];cases(E.und e).isSome<;>cases decide (kk=E.sz e)<;>cases inB j (a27 n c)<;>first|rfl|(simp only[e3e,e6d];cases inB i j.toNat<;>rfl)
@[go_sem] theorem d4o{b o n:Nat}{c:Option Nat}{k:IntKind}{j:Int}:a3q E h t (.slice b o n c) none (some (.int k j)) none=a1a (slT E t) λe=>a1a (b1x (h b)) λkr=>bif isT E e&&decide (kr.1=E.sz e)&&inB j (a27 n c)then some (.slice b o j.toNat c)else none:=by
 cases hs:slT E t with
 |none=>exact b2l hs (λ_ h=>by cases h)
 |some e=>
  have hc:c.map (λx=>x-0)=c:=by cases c<;>rfl
  simp only[a3q,a4u.1 hs,a1a,a8r,isT];cases hb:h b with
  |none=>cases(E.und e).isSome<;>rfl
  |some ob=>cases ob with
   |map=>cases(E.und e).isSome<;>rfl
   |siter=>cases(E.und e).isSome<;>rfl
   |uset=>cases(E.und e).isSome<;>rfl
   |miter=>cases(E.und e).isSome<;>rfl
   |yloop=>cases(E.und e).isSome<;>rfl
   |trow=>cases(E.und e).isSome<;>rfl
   |row kk aa=>simp only[b1x,b9u];have e0:∀m,a1n (none:Option AV) m 0=some 0:=λ_=>rfl;cases(E.und e).isSome<;>cases decide (kk=E.sz e)<;>cases inB j (a27 n c)<;>first|rfl|(simp only[e3e,e6d,e0,hc];rfl)
end
attribute [go_sem] Nat.le_refl Int.toNat_natCast
@[go_sem] theorem c9o{α β:Type}(f:α→β)(l:List α):(l.map f).take l.length=l.map f:=by rw[←b41 (f:=f),e3z]
attribute [go_sem] List.take_length
@[go_sem] theorem c68(n c:Nat):a27 n (some c)=c:=by rfl
@[go_sem] theorem c69(n:Nat):a27 n none=n:=by rfl
end Go.Ax
/- AxMelt: calls over flat arguments that return a pointer to a block of their own. -/
namespace Go.Ax
@[go_sem] theorem d2k{v:AV}{H:a08}:a5t true 0 v H=d98 0 v H:=by rfl
theorem c2y{m:Nat}(hm:(m=0)=False){v:AV}{H:a08}:a5t true m v H=some (v,H):=by
 cases m with
 |zero=>simp at hm
 |succ n=>rfl
attribute [go_sem] c2y
end Go.Ax
/- AxCpy: copy and clear, ar rewrite rules. -/
namespace Go.Ax
section
variable {E:Env}{ai:Bool}{call:CallF}{F:Frm}{H:a08}{h:FHeap}
@[go_sem] theorem d8l(x:Operand)(t:TypeId):a1c E ai call F H (.call { callee:=.builtin .clear,args:=#[x],argTypes:=#[t] })=a1a (b0d E (a03 H) t (opv E F x)) λz=>bif z.2.fits H.length then some (z.1,a9i H z.2,⟨a16 (opv E F x),z.2.keys H.length⟩)else none:=a4j rfl rfl (by simp[a88])
def e62(E:Env)(t:TypeId):Option Nat:=match E.und t with
 |some (.slice e)=>bif (E.und e).isSome then some (E.sz e)else none
 |_=>none
def e3s(E:Env)(t:TypeId):Option (Nat×List AV):=match E.und t with
 |some (.slice e)=>match E.zero e with|some z=>bif z.all AV.storable then some (E.sz e,z)else none|none=>none
 |_=>none
theorem b9r(t:TypeId)(b o l:Nat)(c:Option Nat)(hl:(l=0)=False):b0d E h t (.slice b o l c)=a1a (e3s E t) λkz=>a1a (b1x (h b)) λkr=>
 bif decide (kr.1=kz.1)&&decide (o+l≤kr.2.length)then some (.tuple [],.set b (.row kr.1 (kr.2.take o++List.replicate l kz.2++kr.2.drop (o+l))))else none:=by
 have h0:Nat.beq l 0=false:=by rw[c3l,b9u];exact e50 (by rw[hl];exact id)
 unfold b0d e3s;cases E.und t with
 |none=>rfl
 |some d=>
  cases d<;>try rfl
  rename_i e;simp only[h0,e3p];cases E.zero e with
  |none=>rfl
  |some z=>
   simp only[a1a];cases hb:h b with
   |none=>cases z.all AV.storable<;>simp[hb,b1x]
   |some ob=>cases ob<;>cases hz:z.all AV.storable<;>simp[hb,b1x,b9u,c6d]
attribute [go_sem] b9r
end
section
variable {E:Env}{t:TypeId}{c:Bool}{x y:BitVec 64}
end
section
variable {E:Env}{h:FHeap}{t:TypeId}
@[go_sem] theorem d4n{b o n:Nat}{c:Option Nat}{k:IntKind}{i:Int}:a3q E h t (.slice b o n c) (some (.int k i)) none none=a1a (slT E t) λe=>a1a (b1x (h b)) λkr=>bif isT E e&&decide (kr.1=E.sz e)&&inB i n then some (.slice b (o+i.toNat) (n-i.toNat) (c.map (·- i.toNat)))else none:=by
 cases hs:slT E t with
 |none=>exact b2l hs (λ_ h=>by cases h)
 |some e=>
  simp only[a3q,a4u.1 hs,a1a,a8r,isT];cases hb:h b with
  |none=>cases(E.und e).isSome<;>rfl
  |some ob=>cases ob with
   |map=>cases(E.und e).isSome<;>rfl
   |siter=>cases(E.und e).isSome<;>rfl
   |uset=>cases(E.und e).isSome<;>rfl
   |miter=>cases(E.und e).isSome<;>rfl
   |yloop=>cases(E.und e).isSome<;>rfl
   |trow=>cases(E.und e).isSome<;>rfl
   |row kk aa=>simp only[b1x,b9u];have e0:∀m,a1n (none:Option AV) m n=some n:=λ_=>rfl;cases(E.und e).isSome<;>cases decide (kk=E.sz e)<;>first|rfl|(simp only[e3e,e6d,e0];cases inB i n<;>rfl)
end
end Go.Ax
/- AxFz: a loop that freezes at its end, as rewrite rules. -/
namespace Go.Ax
@[go_sem] theorem d5z:a6g .junk=[]:=by rfl
end Go.Ax
/- AxMl: a loop over a set of numbers: as a condition on its end. -/
namespace Go.Ax
section
variable {E:Env}{M:List Fact}{m N:Nat}{g:FuncId}{cur:Nat}{keep:List Nat}{id:Nat}{au:Array Oper}{it nx:Nat}{m4:List Oper}{ag:Code}
end
end Go.Ax
/- AxSetS: sets of numbers, as rewrite rules. -/
namespace Go.Ax
section
variable {E:Env}{h:FHeap}{t:TypeId}{ai:Bool}{call:CallF}{F:Frm}{H:a08}
@[go_sem] theorem d6j:b5l E t=bif b6j E t then .uset []else .map [] [] [] 0:=by rfl
/-! lookup -/
/-! update -/
/-! delete -/
/-! length -/
/-! ranging -/
/-! frames and heaps -/
variable (π:Nat→Option Nat)
end
end Go.Ax
/- AxSs: strings: equality, sums, slices, as rules. -/
namespace Go.Ax
section
variable {E:Env}{h:FHeap}{t:TypeId}
@[go_sem] theorem d9t(a b:List UInt8):d32 .eql a b=some (.bool (decide (a=b))):=by(show some (AV.bool (a==b))=_;congr 2;rw[e7c];simp)
@[go_sem] theorem d9s(a b:List UInt8):d32 .neq a b=some (.bool (!(decide (a=b)))):=by(show some (AV.bool (a != b))=_;congr 2;rw[e7c];simp)
@[go_sem] theorem d9u(a b:List UInt8):d32 .add a b=bif decide (a.length+b.length≤4611686018427387904)then some (.str (a++b))else none:=by rfl
end
end Go.Ax
/- AxTwo: slices of slices that grow: one block of rows, a block for each that is not empty. -/
namespace Go.Ax
theorem b77{H L:a08}{c:Nat}(h:(c<H.length)=True):a03 (H++L) c=a03 H c:=by unfold a03;rw[e3q (of_eq_true h)]
theorem c8h{H L:a08}(i:Nat):a03 (H++L) (H.length+i)=a03 L i:=by unfold a03;rw[e3l (by omega)];congr 1;rw[Nat.add_sub_cancel_left]
section
variable {m:Nat}{F:Frm}{H H1:a08}{R:Nat→Prop}{π:Nat→Option Nat}{b k:Nat}{jr:Nat→Nat}{cp:Nat→Option Nat}{fo:List (List (List AV))}
end
section
variable {H:a08}{b k:Nat}{jr:Nat→Nat}{cp:Nat→Option Nat}{fo:List (List (List AV))}{j:Nat}{x:List AV}{o:Option AObj}
end
def fqE(E:Env)(g:FuncId)(m:Nat)(results:List ResultVar)(P:AV×a08→Prop):b4z:=λe F H=>match e with|.exit _=>False|_=>∃vs r,a1l E F H results=some vs∧a5t (E.thaw g) m (a7t vs) H=some r∧P r
theorem d1f{E:Env}{M:List Fact}{g:FuncId}{args:List AV}{H:a08}{code:Code}{N:Nat}{results:List ResultVar}{P:AV×a08→Prop}
 (cI:E.fn g=some ⟨code,N,results⟩)(bP:∀y∈M,y.g≠g)(hN:Nat.ble args.length N=true){m:Nat}(hm:H.length=m)(h:Wp (cx E M m N g 0) code (a3k 0 args) H (fqE E g m results P))(hp:E.prim g args=none:=by rfl)(hz:E.zf g=false:=by rfl)(hw:E.raw g=false:=by rfl):∃r,P r∧sem E M g args H=some r:=by
 subst hm;obtain⟨e,F',H',h1,h2⟩:=b6b _ h;cases e with
 |normal=>obtain⟨vs,⟨v,H2⟩,h3,h4,h5⟩:=h2;exact⟨_,h5,c18 cI bP hN h1 (λ_ h=>by cases h) h3 h4 hp hz hw⟩
 |ret=>obtain⟨vs,⟨v,H2⟩,h3,h4,h5⟩:=h2;exact⟨_,h5,c18 cI bP hN h1 (λ_ h=>by cases h) h3 h4 hp hz hw⟩
 |exit id=>exact h2.elim
theorem a4x{E:Env}{g:FuncId}{m:Nat}{results:List ResultVar}{P:AV×a08→Prop}{e:AExit}{F:Frm}{H:a08}{r:AV×a08}(h:(bif e.fin then a1a (a1l E F H results) λvs=>a5t (E.thaw g) m (a7t vs) H else none)=some r)(h3:P r):fqE E g m results P e F H:=by
 have h:=fqb h;cases e with
 |exit i=>exact h
 |_=>obtain⟨vs,h1,h2⟩:=h;exact⟨vs,r,h1,h2,h3⟩
theorem svE{E:Env}{M:List Fact}{g:FuncId}{args:List AV}{H:a08}{P:AV×a08→Prop}(f:Func)(h:Wp (cx E M H.length f.ntmps g 0) (f.body.getD .skip) (a3k 0 args) H (fqE E g H.length f.results.toList P))(cI:E.fn g=some ⟨f.body.getD .skip,f.ntmps,f.results.toList⟩:=by kernel_rfl)
 (bP:(M.all λy=>!Nat.beq y.g g)=true:=by rfl)(hN:Nat.ble args.length f.ntmps=true:=by rfl)(hp:E.prim g args=none:=by rfl)(hz:E.zf g=false:=by rfl)(hw:E.raw g=false:=by rfl):∃r,P r∧sem E M g args H=some r:=d1f cI (λy hy e=>by
 have:=e3n.1 bP y hy;rw[e]at this;simp at this) hN rfl h hp hz hw
end Go.Ax
/- AxCall3: calls over two blocks, which they may write. -/
namespace Go.Ax
theorem a7s{σ:List Nat}{n:Nat}{H1:a08}:∀(s:Nat) (H:a08) (i:Nat),(a0n σ n H1 s H)[i]?=(H[i]?).map λo=>match σ.idxOf? (s+i)with|some j=>(a03 H1 j).map (a0t (a1e σ n))|none=>o
 |s,[],i=>by simp[a0n]
 |s,o::H,0=>by simp[a0n];rfl
 |s,o::H,i+1=>by simp only[a0n,e51,a7s (s+1) H i];rw[show s+1+i=s+(i+1) by omega]
theorem b31{H:a08}{a b:Nat}(mX:a≠b)(ha:a36 (a03 H a)=[])(hb:a36 (a03 H b)=[]):a0j H 1000000 [a,b] []=[a,b]:=by
 have e:a0j H (999996+4) [a,b] []=[a,b]:=by
  unfold a0j;simp only[a1i,e3p,ha,b43];unfold a0j;have h1:a1i [a] b=false:=by
   cases hc:a1i [a] b with
   |false=>rfl
   |true=>exact absurd (by simpa using a55.1 hc) (e3m mX)
  simp only[h1,e3p,hb,b43];unfold a0j;rfl
 exact e
end Go.Ax
/- AxTab: a table of rows of words in blocks, wherever they lie; heads of loops and calls over it. -/
namespace Go.Ax
section
variable {H H1:a08}{R:Nat→Prop}{π:Nat→Option Nat}{a b q:Nat}{jr:Nat→Nat}{w:Nat}{fo:List (List (BitVec 64))}{fr:Int}
end
/-! ### calls, wherever the blocks lie -/
end Go.Ax
/- AxGw: a flat block and a slice of rows that grow together. -/
namespace Go.Ax
section
variable {H H1:a08}{R:Nat→Prop}{π:Nat→Option Nat}{w b k:Nat}{jr:Nat→Nat}{cp:Nat→Option Nat}{ws:List (List AV)}{fo:List (List (List AV))}
end
end Go.Ax
/- AxTwX: a slice of growing slices beside flat blocks: a loop's head. -/
namespace Go.Ax
section
variable {H:a08}{b k:Nat}{jr:Nat→Nat}{cp:Nat→Option Nat}{fo:List (List (List AV))}
end
end Go.Ax
/- AxTab2: a table that a call has been given: heads of loops and calls that write it. -/
namespace Go.Ax
section
variable {H H1:a08}{a b q:Nat}{jr:Nat→Nat}{w:Nat}{fo:List (List (BitVec 64))}{fr:Int}
end
end Go.Ax
/- AxLow: a loop's head over blocks that all stood before the call and refer to nothing. -/
namespace Go.Ax
end Go.Ax
/- AxRf: loops over functions, as conditions on their ends; their rounds. -/
namespace Go.Ax
theorem c8w{E:Env}{ai:Bool}{call:CallF}{g:FuncId}{fs cs as args:List AV}{H:a08}(hx:E.ext g=false)(hf:(E.fn g).isSome=true)(he:fs++as++cs=args){v:AV}{H':a08}{σ:List Nat}
 (h:a2u (call g) args H=some (v,H',σ))(hl:H.length≤H'.length):a0e E ai call (.func (.func g) fs cs) as H=some (v,H',σ):=by
 have hb:Nat.ble H.length H'.length=true:=by rw[e5e];exact hl
 simp only[a0e,hx,hf,he,h,hb,e3e,e3p,e6i,Bool.and_false]
end Go.Ax
/- AxTwY: a slice of slices: a new slice in an empty place; the numbers that a loop's head gives to the first blocks. -/
namespace Go.Ax
section
variable {H H1:a08}{b k:Nat}{jr:Nat→Nat}{cp:Nat→Option Nat}{fo:List (List (List AV))}
end
end Go.Ax
/- AxTwZ: a slice of slices: a new slice behind the others, a slice that is b0i. -/
namespace Go.Ax
section
variable {H H1:a08}{b k:Nat}{jr:Nat→Nat}{cp:Nat→Option Nat}{fo:List (List (List AV))}
end
theorem a9d{E:Env}{d:Bool}{call:CallF}{g:FuncId}{fs cs ar args:List AV}{H L:a08}{v:AV}(hx:E.ext g=false)(hf:(E.fn g).isSome=true)(he:fs++ar++cs=args)(aV:a0x args=[])(hr:call g args []=some (v,L)) :
 a0e E d call (.func (.func g) fs cs) ar H=some (ren (a1e [] H.length) v,H++L.map (Option.map (a0t (a1e [] H.length))),[]):=by
 have hc:=a0b (call g) args H (σ:=[]) (by rw[aV];rfl) rfl rfl (an:=args) (a5f _ aV) (H0:=[]) rfl hr;rw[a93]at hc;simp only[e27,e5b]at hc;exact c8w hx hf he hc (by simp)
section
variable {L:a08}{b k:Nat}{jr:Nat→Nat}{cp:Nat→Option Nat}{fo:List (List (List AV))}
end
section
variable {H2:a08}{b k:Nat}{jr:Nat→Nat}{cp:Nat→Option Nat}{fo:List (List (List AV))}
end
end Go.Ax
/- AxSupH: closed runs over facts of calls that are given memory, or give memory of their own. -/
namespace Go.Ax
structure FactH where
 g:FuncId
 args:List AV
 H0:a08
 v:AV
 H:a08
def b9t(E:Env)(x:FactH):Prop:=sem E [] x.g x.args x.H0=some (x.v,x.H)
def b60:a08→a08→Bool
 | [],[]=>true
 |some (.row n a)::r,some (.row m b)::s=>Nat.beq n m&&eqR a b&&b60 r s
 |_,_=>false
theorem c60:∀(a b:a08),b60 a b=true→a=b
 | [],b,h=>by
  cases b with
  |nil=>rfl
  |cons x r=>simp[b60]at h
 |some (.row n a)::r,some (.row m b)::s,h=>by simp only[b60,b46,e5a]at h;obtain⟨⟨h1,h2⟩,h3⟩:=h;rw[h1,c5y _ _ h2,c60 r s h3]
 |some (.row n a)::r,[],h=>by simp[b60]at h
 |some (.row n a)::r,none::s,h=>by simp[b60]at h
 |some (.row n a)::r,some (.map _ _ _ _)::s,h=>by simp[b60]at h
 |some (.row n a)::r,some (.siter _ _)::s,h=>by simp[b60]at h
 |some (.row n a)::r,some (.uset _)::s,h=>by simp[b60]at h
 |some (.row n a)::r,some (.miter _ _ _)::s,h=>by simp[b60]at h
 |some (.row n a)::r,some (.yloop _ _ _)::s,h=>by simp[b60]at h
 |some (.row n a)::r,some (.trow _ _ _ _)::s,h=>by simp[b60]at h
 |none::r,b,h=>by simp[b60]at h
 |some (.map _ _ _ _)::r,b,h=>by simp[b60]at h
 |some (.siter _ _)::r,b,h=>by simp[b60]at h
 |some (.uset _)::r,b,h=>by simp[b60]at h
 |some (.miter _ _ _)::r,b,h=>by simp[b60]at h
 |some (.yloop _ _ _)::r,b,h=>by simp[b60]at h
 |some (.trow _ _ _ _)::r,b,h=>by simp[b60]at h
def c2b:List FactH→FuncId→List AV→a08→Option (AV×a08)
 | [],_,_,_=>none
 |x::r,g,args,H=>bif Nat.beq x.g g&&(eqL x.args args&&b60 x.H0 H)then some (x.v,x.H)else c2b r g args H
theorem b2x{E:Env}{g:FuncId}{args:List AV}{H:a08}{v:AV×a08}:∀{M:List FactH},(∀x∈M,b9t E x)→c2b M g args H=some v→sem E [] g args H=some v
 | [],_,h=>by simp[c2b]at h
 |x::r,hM,h=>by
  simp only[c2b,cond_eq_ite]at h;split at h
  ·rename_i hc;simp only[b46,e5a]at hc;cases h;have:=hM x (by simp);obtain⟨g',a',uS,v',H'⟩:=x;simp only at hc this;have h1:=hc.1;have h2:=b3v _ _ hc.2.1;have h3:=c60 _ _ hc.2.2;subst h1;subst h2;subst h3;exact this
  ·exact b2x (λx hx=>hM x (by simp[hx])) h
def d21(M:List Fact)(L:List FactH)(call:FuncId→List AV→a08→Option (AV×a08))(g:FuncId)(args:List AV)(H:a08):Option (AV×a08):=
 match H with
 | []=>match d3z M g args with
  |some v=>some (v,[])
  |none=>match c2b L g args []with
   |some r=>some r
   |none=>call g args []
 |b::r=>match c2b L g args (b::r)with
  |some r=>some r
  |none=>call g args (b::r)
def b8i(E:Env)(M:List Fact)(L:List FactH):Nat→FuncId→List AV→a08→Option (AV×a08)
 |0,_,_,_=>none
 |n+1,f,args,H=>d21 M L (a6c E (b8i E M L n) (n+1)) f args H
theorem b11{E:Env}{M:List Fact}{L:List FactH}(hM:∀x∈M,b4y E x)(hL:∀x∈L,b9t E x):∀n,CallF.le (b8i E M L n) (sem E [])
 |0=>λg args H r h=>by simp[b8i]at h
 |n+1=>λg args H r h=>by
  have h:d21 M L (a6c E (b8i E M L n) (n+1)) g args H=some r:=h;unfold d21 at h;split at h
  ·split at h
   ·rename_i v hs;cases h;exact b6q hM hs
   ·split at h
    ·rename_i v hs;cases h;exact b2x hL hs
    ·exact a6b (b11 hM hL n) _ _ _ _ _ h
  ·split at h
   ·rename_i v hs;cases h;exact b2x hL hs
   ·exact a6b (b11 hM hL n) _ _ _ _ _ h
theorem c4e{E:Env}{M:List Fact}{L:List FactH}(hM:∀x∈M,b4y E x)(hL:∀x∈L,b9t E x)(n:Nat){g:Nat}{args:List AV}{H0:a08}{v:AV}{H:a08}(h:a6c E (b8i E M L n) n g args H0=some (v,H)):b9t E ⟨g,args,H0,v,H⟩:=a6b (b11 hM hL n) n _ _ _ _ h
theorem b84{E:Env}:∀x∈([]:List FactH),b9t E x:=by simp
end Go.Ax
/- AxLog: the look at a drawn region's log, the order first. -/
namespace Go.Ax
end Go.Ax
namespace Go.Ax
end Go.Ax
/- AxTab3: calls that are given a table (and a list in a block). -/
namespace Go.Ax
end Go.Ax
/- AxTab4: a table that is being c0h; heads of the loops that make and fill it. -/
namespace Go.Ax
section
variable {H H1:a08}{R:Nat→Prop}{π:Nat→Option Nat}{a b:Nat}{jr:Nat→Nat}{w n i:Nat}
end
end Go.Ax
/- AxTab5: a table's number in another cell; a table that is given back. -/
namespace Go.Ax
section
variable {H:a08}{a b q:Nat}{jr:Nat→Nat}{w:Nat}{fo:List (List (BitVec 64))}{fr:Int}
end
end Go.Ax
/- AxMapS: maps by keys that have an encoding; maps of growing slices of numbers. -/
namespace Go.Ax
section
variable {α:Type}[DecidableEq α]{E:Env}{t kt et:TypeId}{enc:α→AV}
end
/-! ### the values that a key has collected -/
end Go.Ax
/- AxMapT: a map of growing slices of numbers, wherever its blocks lie. -/
namespace Go.Ax
section
variable {α:Type}[DecidableEq α]{enc:α→AV}{H H1:a08}{R:Nat→Prop}{π:Nat→Option Nat}{c b:Nat}{jr:Nat→Nat}{es:List (α×List Nat)}
end
section
variable {α:Type}[DecidableEq α]{E:Env}{t kt et:TypeId}{enc:α→AV}
end
section
variable {α:Type}[DecidableEq α]{enc:α→AV}{H:a08}{c b:Nat}{jr:Nat→Nat}{es:List (α×List Nat)}
end
end Go.Ax
/- AxSl3: an immutable slice cut with its capacity. -/
namespace Go.Ax
section
variable {E:Env}{h:FHeap}{t:TypeId}
end
end Go.Ax
