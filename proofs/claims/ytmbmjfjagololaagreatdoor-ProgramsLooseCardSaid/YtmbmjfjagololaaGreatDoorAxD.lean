/- AxTop: a call from outside: a47 old block is immutable. -/
import Derived.Test.YtmbmjfjagololaaGreatDoorAxC
import Derived.Below
import Derived.IntWalk
import Derived.KernelRfl
import GoSem.ClaimChange
import GoSem.ClaimJoined
import Derived.RowKit
import Derived.ChangeSame
import Derived.Carry
set_option linter.unusedSimpArgs false
set_option linter.unusedVariables false
namespace Go.Ax
open Go.RowKit
def Old(w:World):Nat→Prop:=λc=>c<w.heap.size
def Holds(E:Env)(w:World):Prop:=∀g cs,E.G g=some cs→g<w.heap.size∧GAt (Old w) w cs g
theorem d4o{E:Env}{f:FuncId}{run:List AV→a08→Option (AV×a08)}(hfy:f≠yId)(hf:a4j E f run){args:List AV}{v:AV}{H':a08}(h:run args []=some (v,H')){w:World}(hG:Holds E w){cargs:List Value}(ha:VRels (Old w) w noP args cargs) :
 Calls E.P f cargs.toArray w λen w'=>∃c I' ρ',en = .returned c∧Below w.heap.size w w'∧VRel I' w' ρ' v c:=by
 have rel:HRel E.G (Old w) (λ_=>False) noP (a04 []) w:=by
  refine⟨?_,?_,?_,λc hc=>hc,λc hc=>hc.elim,λ_ _ h=>h,hG⟩
  ·intro b o hb;simp[a04]at hb
  ·intro b b' m m' hb;simp[a04]at hb
  ·intro b m hb;simp[noP]at hb
 have h0:=hf args [] v H' h (Old w) (λ_=>False) noP w cargs rel (λ_ _=>rfl) ha;rw[a3m hfy]at h0;refine Calls.mono h0 ?_
 rintro en w' ⟨c,I',ρ',rfl,hret,hv⟩
 exact⟨c,I',ρ',rfl,⟨hret.ext.os,hret.ext.tape,hret.ext.output,hret.ext.size,λk hk=>hret.ext.keep k (.inl hk)⟩,hv⟩
theorem c79{E:Env}{f:FuncId}{run:List AV→a08→Option (AV×a08)}(hfy:f≠yId)(hf:a4j E f run){args:List AV}{H':a08}(h:run args []=some (.bool true,H')){w:World}(hG:Holds E w){cargs:List Value}(ha:VRels (Old w) w noP args cargs) :
 Calls E.P f cargs.toArray w λen w'=>en = .returned (.bool true)∧Below w.heap.size w w':=by
 refine(d4o hfy hf h hG ha).mono ?_
 rintro en w' ⟨c,I',ρ',rfl,hb,hv⟩
 simp only[VRel]at hv;subst hv;exact⟨rfl,hb⟩
end Go.Ax
/- AxSem: what a call comes to, a5u fuel for the calls: a function 'sem', closed under running a body over itself. No condition. -/
namespace Go.Ax
abbrev CallF:=FuncId→List AV→a08→Option (AV×a08)
def CallF.le(c c':CallF):Prop:=∀g a H r,c g a H=some r→c' g a H=some r
theorem a81{r r':List AV→a08→Option (AV×a08)}(h:∀a H x,r a H=some x→r' a H=some x){args:List AV}{H:a08}{x:AV×a08×List Nat}
 (hc:a2s r args H=some x):a2s r' args H=some x:=by
 unfold a2s at hc⊢;simp only at hc⊢;rw[cond_eq_ite]at hc⊢;split at hc
 case isFalse=>cases hc
 rename_i h1;rw[if_pos h1];split at hc
 case h_2=>cases hc
 rename_i v H1 hr;rw[h _ _ _ hr];exact hc
theorem b8b{r r':List AV→a08→Option (AV×a08)}(h:∀a H x,r a H=some x→r' a H=some x){args:List AV}{H:a08}{x:AV×a08×List Nat}
 (hc:a8t r args H=some x):a8t r' args H=some x:=by
 unfold a8t at hc⊢;split at hc
 case h_2=>cases hc
 rename_i args' h1;split at hc
 case h_2=>cases hc
 rename_i v H1 hr;rw[h _ _ _ hr];exact hc
section
variable {E:Env}{draw:Bool}{N:Nat}{c c':CallF}(hc:CallF.le c c')
include hc
theorem c2v{f:AV}{args:List AV}{H:a08}{x:AV×a08×List Nat}(h:a0j E draw c f args H=some x):a0j E draw c' f args H=some x:=by
 unfold a0j at h⊢;split at h
 case h_3=>cases h
 case h_2=>
  split at h
  case h_2=>cases h
  rename_i v H' σ hr;rw[a81 (λa H x=>hc yId a H x) hr];exact h
 rename_i g fs cs;rw[cond_eq_ite]at h⊢;split at h
 ·rename_i h1;rw[if_pos h1];rw[cond_eq_ite]at h⊢;split at h
  ·rename_i h2;rw[if_pos h2];exact b8b (λa H x=>hc g a H x) h
  ·rename_i h2;rw[if_neg h2];exact h
 ·rename_i h1;rw[if_neg h1];rw[cond_eq_ite]at h⊢;split at h
  case isFalse=>cases h
  rename_i h2;rw[if_pos h2];split at h
  case h_2=>cases h
  rename_i v H' σ hr;rw[a81 (λa H x=>hc g a H x) hr];exact h
theorem b9j{F:Frm}{H:a08}{op:Op}{x:AV×a08×LogE}(h:a1c E draw c F H op=some x):a1c E draw c' F H op=some x:=by
 unfold a1c at h⊢;split at h
 ·split at h
  case h_2=>cases h
  rename_i v H' σ hr;rw[c2v hc hr];exact h
 ·exact h
theorem b2u{R:Type}{all:List Oper}{k k':Frm→a08→Option R}(hk:∀F H r,k F H=some r→k' F H=some r):∀(ops:List Oper) (log:List LogE) (F:Frm) (H:a08) {r:R},
 a26 E draw N c all ops log F H k=some r→a26 E draw N c' all ops log F H k'=some r:=by
 intro ops
 induction ops with
 |nil=>
  intro log F H r h;unfold a26 at h⊢;rw[cond_eq_ite]at h⊢;split at h
  case isFalse=>cases h
  rename_i h1;rw[if_pos h1];exact hk _ _ _ h
 |cons o rest ih=>
  have step:∀(log:List LogE) (F F':Frm) (H:a08) (op:Op) (r:R),(match a1c E draw c F H op with
   |some (v,H',l)=>a26 E draw N c all rest (l::log) (a3k F' o.dst v) H' k
   |none=>none)=some r→(match a1c E draw c' F H op with
   |some (v,H',l)=>a26 E draw N c' all rest (l::log) (a3k F' o.dst v) H' k'
   |none=>none)=some r:=by
   intro log F F' H op r h;split at h
   case h_2=>cases h
   rename_i v H' l hs;rw[b9j hc hs];exact ih _ _ _ h
  intro log F H r h;unfold a26 at h⊢;rw[cond_eq_ite]at h⊢;split at h
  case isFalse=>cases h
  rename_i h1;rw[if_pos h1];split at h
  ·exact step _ _ _ _ _ _ h
  ·rename_i j want hg;split at h
   ·cases h
   ·rename_i d hd;split at h
    ·rename_i b hb;rw[cond_eq_ite]at h⊢;split at h
     ·rename_i hbt;rw[if_pos hbt];rw[cond_eq_ite]at h⊢;split at h
      ·rename_i hw;rw[if_pos hw];exact step _ _ _ _ _ _ h
      ·rename_i hw;rw[if_neg hw];exact ih _ _ _ h
     ·rename_i hbt;rw[if_neg hbt];rw[cond_eq_ite]at h⊢;split at h
      ·rename_i hw;rw[if_pos hw];exact ih _ _ _ h
      ·rename_i hw;rw[if_neg hw];exact step _ _ _ _ _ _ h
    ·exact ih _ _ _ h
    ·cases h
omit hc in
theorem b5d{m0:Nat}{keep:List Nat}{R:Type}{b b':Frm→a08→(AExit→Frm→a08→Option R)→Option R}
 (hb:∀F H (k k':AExit→Frm→a08→Option R),(∀e F H r,k e F H=some r→k' e F H=some r)→∀r,b F H k=some r→b' F H k'=some r):∀(n n':Nat),n≤n'→∀(F:Frm) (H:a08) (k k':AExit→Frm→a08→Option R),(∀e F H r,k e F H=some r→k' e F H=some r)→∀{r:R},
 b1u m0 keep b n F H k=some r→b1u m0 keep b' n' F H k'=some r
 |0,_,_,F,H,k,k',_,r,h=>by simp[b1u]at h
 |n+1,0,hn,F,H,k,k',_,r,h=>by omega
 |n+1,n'+1,hn,F,H,k,k',hk,r,h=>by
  unfold b1u at h⊢;simp only at h⊢;rw[cond_eq_ite]at h⊢;split at h
  case isFalse=>cases h
  rename_i h1;rw[if_pos h1];refine hb _ _ _ _ ?_ r h;intro e F H r h;cases e with
  |normal=>exact b5d hb n n' (by omega) F H k k' hk h
  |exit id=>exact hk _ _ _ _ h
  |ret=>exact hk _ _ _ _ h
omit hc in
theorem b2v{m0 it:Nat}{keep:List Nat}{ks acc:List Int}{b b':Frm→a08→(AExit→Frm→a08→Option R3)→Option R3}
 (hb:∀F H (k k':AExit→Frm→a08→Option R3),(∀e F H r,k e F H=some r→k' e F H=some r)→∀r,b F H k=some r→b' F H k'=some r){a:Option Int}{F:Frm}{H:a08}{x:R3}(h:b1f m0 it keep ks acc b a F H=some x):b1f m0 it keep ks acc b' a F H=some x:=by
 unfold b1f at h⊢;split at h
 case h_2=>cases h
 rename_i F1 H1 hg;split at h
 case h_2=>cases h
 rename_i H2 ha;exact hb _ _ _ _ (λ_ _ _ _ h=>h) _ h
omit hc in
theorem b2y{m0 it:Nat}{keep:List Nat}{ks:List Int}{b b':Frm→a08→(AExit→Frm→a08→Option R3)→Option R3}
 (hb:∀F H (k k':AExit→Frm→a08→Option R3),(∀e F H r,k e F H=some r→k' e F H=some r)→∀r,b F H k=some r→b' F H k'=some r):∀{o acc:List Int} {F:Frm} {H:a08} {x:R3},a4y m0 it keep ks b acc o F H=some x→a4y m0 it keep ks b' acc o F H=some x
 | [],acc,F,H,x,h=>by
  unfold a4y at h⊢;split at h
  ·cases h
  ·rename_i e F' H' hne hr;rw[b2v hb hr];cases e with
   |normal=>exact(hne rfl).elim
   |exit id=>exact h
   |ret=>exact h
  ·cases h
 |i::o,acc,F,H,x,h=>by
  unfold a4y at h⊢;split at h
  case h_2=>cases h
  rename_i F' H' hr;rw[b2v hb hr];exact b2y hb h
omit hc in
theorem c29{m0 it:Nat}{keep:List Nat}{R:Type}{b b':Frm→a08→(AExit→Frm→a08→Option R3)→Option R3}
 (hb:∀F H (k k':AExit→Frm→a08→Option R3),(∀e F H r,k e F H=some r→k' e F H=some r)→∀r,b F H k=some r→b' F H k'=some r){F:Frm}{H:a08}{k k':AExit→Frm→a08→Option R}(hk:∀e F H r,k e F H=some r→k' e F H=some r){r:R}
 (h:c2a m0 it keep b F H k=some r):c2a m0 it keep b' F H k'=some r:=by
 unfold c2a at h⊢;split at h
 case h_2=>cases h
 rename_i ks hks;split at h
 case h_2=>cases h
 rename_i r0 rs hmap;rw[cond_eq_ite]at h;split at h
 case isFalse=>cases h
 rename_i hall;have hm:(b59 ks).map (λo=>a4y m0 it keep ks b' [] o F H)=some r0::rs:=by
  rw[←hmap];refine List.map_congr_left λo ho=>?_;have hm:=List.mem_map_of_mem (f:=λo=>a4y m0 it keep ks b [] o F H) ho;rw[hmap]at hm;have he:a4y m0 it keep ks b [] o F H=some r0:=by
   rcases List.mem_cons.1 hm with h|h
   ·exact h
   ·exact c0p (List.all_eq_true.1 hall _ h)
  rw[he];exact b2y hb he
 rw[hm];simp only[hall,cond_true];exact hk _ _ _ _ h
theorem a5h{m0 lf lf':Nat}(hl:lf≤lf'){keep:Nat→List Nat}:∀(code:Code) {R:Type} (cur:Nat) (F:Frm) (H:a08) (k k':AExit→Frm→a08→Option R),(∀e F H r,k e F H=some r→k' e F H=some r)→∀{r:R},
 a3u E m0 N keep c lf cur code F H k=some r→a3u E m0 N keep c' lf' cur code F H k'=some r:=by
 intro code
 induction code with
 |skip=>intro R cur F H k k' hk r h;unfold a3u at h⊢;exact hk _ _ _ _ h
 |label l=>intro R cur F H k k' hk r h;unfold a3u at h⊢;exact hk _ _ _ _ h
 |exit id=>intro R cur F H k k' hk r h;unfold a3u at h⊢;exact hk _ _ _ _ h
 |ret=>intro R cur F H k k' hk r h;unfold a3u at h⊢;exact hk _ _ _ _ h
 |region id ops draw=>
  intro R cur F H k k' hk r h;unfold a3u at h⊢;cases hn:c7o ops.toList with
  |none=>rw[hn]at h;exact b2u hc (λF H r h=>hk _ _ _ _ h) _ _ _ _ h
  |some x=>
   obtain⟨it,nx,rest⟩:=x;rw[hn]at h;simp only[cond_eq_ite]at h⊢;split at h
   case isTrue=>cases h
   rename_i h1;rw[if_neg h1];split at h
   case h_2=>cases h
   rename_i v H' hx;exact b2u hc (λF H r h=>hk _ _ _ _ h) _ _ _ _ h
 |seq x y ihx ihy=>
  intro R cur F H k k' hk r h;unfold a3u at h⊢;refine ihx _ _ _ _ _ ?_ h;intro e F H r h;cases e with
  |normal=>exact ihy _ _ _ _ _ hk h
  |exit id=>exact hk _ _ _ _ h
  |ret=>exact hk _ _ _ _ h
 |cond x y z ihy ihz=>
  intro R cur F H k k' hk r h;unfold a3u at h⊢;split at h
  case h_2=>cases h
  rename_i t ht;simp only[cond_eq_ite]at h⊢;split at h
  ·rename_i h1;rw[if_pos h1];exact ihy _ _ _ _ _ hk h
  ·rename_i h1;rw[if_neg h1];exact ihz _ _ _ _ _ hk h
 |block id b ih=>
  intro R cur F H k k' hk r h;unfold a3u at h⊢;refine ih _ _ _ _ _ ?_ h;intro e F H r h;cases e with
  |normal=>exact hk _ _ _ _ h
  |exit id'=>
   simp only[cond_eq_ite]at h⊢;split at h
   ·rename_i h1;rw[if_pos h1];exact hk _ _ _ _ h
   ·rename_i h1;rw[if_neg h1];exact hk _ _ _ _ h
  |ret=>exact hk _ _ _ _ h
 |loop b ih=>
  intro R cur F H k k' hk r h;unfold a3u at h⊢;cases hn:a9l b with
  |some it=>rw[hn]at h;exact c29 (λF H k k' hk r h=>ih _ F H k k' hk h) hk h
  |none=>
  rw[hn]at h;dsimp only at h⊢;refine b5d (λF H k k' hk r h=>ih _ F H k k' hk h) _ _ hl F H _ _ ?_ h;intro e F H r h;rw[cond_eq_ite]at h⊢;split at h
  ·rename_i h1;rw[if_pos h1];exact hk _ _ _ _ h
  ·rename_i h1;rw[if_neg h1];exact hk _ _ _ _ h
 |scope b ih=>intro R cur F H k k' hk r h;unfold a3u at h⊢;exact ih _ _ _ _ _ hk h
 |rangeFunc f ps as b=>
  intro R cur F H k k' hk r h;unfold a3u at h⊢;split at h
  case h_2=>cases h
  rename_i g fs cs y _ _;rw[cond_eq_ite]at h⊢;split at h
  case isFalse=>cases h
  rename_i h1;rw[if_pos h1];split at h
  case h_2=>cases h
  rename_i v H2 σ hr;rw[a81 (λa H x=>hc g a H x) hr];dsimp only;split at h
  ·exact hk _ _ _ _ h
  ·exact hk _ _ _ _ h
  ·exact hk _ _ _ _ h
  ·cases h
 |_=>intro R cur F H k k' hk r h;simp[a3u]at h
theorem b6k{lf lf':Nat}(hl:lf≤lf'){args:List AV}{H:a08}{r:AV×a08}(h:a89 E c lf args H=some r):a89 E c' lf' args H=some r:=by
 unfold a89 at h⊢;split at h
 case h_2=>cases h
 rename_i b vs;split at h
 case h_2=>cases h
 rename_i y F hb;split at h
 case h_2=>cases h
 rename_i ri hri;rw[cond_eq_ite]at h⊢;split at h
 case isFalse=>cases h
 rename_i h1;rw[if_pos h1];refine a5h hc hl _ _ _ _ _ _ ?_ h;intro e F H r h;cases e with
 |normal=>
  dsimp only at h⊢;split at h
  case h_2=>cases h
  rename_i H1 hy;exact a5h hc hl _ _ _ _ _ _ (λ_ _ _ _ h=>h) h
 |exit id=>exact h
 |ret=>exact h
theorem c6l{m0 lf lf':Nat}(hl:lf≤lf'){keep:Nat→List Nat}:∀(code:Code) {R:Type} (cur:Nat) (F:Frm) (H:a08) (k k':AExit→Frm→a08→Option R),(∀e F H r,k e F H=some r→k' e F H=some r)→∀{r:R},
 d2u E m0 N keep c lf cur code F H k=some r→d2u E m0 N keep c' lf' cur code F H k'=some r:=by
 intro code
 induction code with
 |seq x y ihx ihy=>
  intro R cur F H k k' hk r h;unfold d2u at h⊢;refine ihx _ _ _ _ _ ?_ h;intro e F H r h;cases e with
  |normal=>exact ihy _ _ _ _ _ hk h
  |exit id=>exact hk _ _ _ _ h
  |ret=>exact hk _ _ _ _ h
 |_=>intro R cur F H k k' hk r h;exact a5h hc hl _ _ _ _ _ _ hk h
theorem c6m{m0 lf lf' j:Nat}(hl:lf≤lf'){keep:Nat→List Nat}:∀(n:Nat) (code:Code) {R:Type} (cur:Nat) (F:Frm) (H:a08) (k k':AExit→Frm→a08→Option R),(∀e F H r,k e F H=some r→k' e F H=some r)→∀{r:R},
 d7n E m0 N keep c lf j n cur code F H k=some r→d7n E m0 N keep c' lf' j n cur code F H k'=some r:=by
 intro n
 induction n with
 |zero=>intro code R cur F H k k' hk r h;exact a5h hc hl _ _ _ _ _ _ hk h
 |succ n ih=>
  intro code;cases code with
  |seq x y=>
   intro R cur F H k k' hk r h;refine a5h hc hl x cur F H _ _ ?_ h;intro e F H r h;cases e with
   |normal=>exact ih _ _ _ _ _ _ hk h
   |exit id=>exact hk _ _ _ _ h
   |ret=>exact hk _ _ _ _ h
  |_=>intro R cur F H k k' hk r h;exact a5h hc hl _ _ _ _ _ _ hk h
theorem b0j{lf lf':Nat}(hl:lf≤lf'){g:FuncId}{args:List AV}{H:a08}{r:AV×a08}(h:a5v E c lf g args H=some r):a5v E c' lf' g args H=some r:=by
 unfold a5v at h⊢;split at h
 ·exact h
 split at h
 ·skip
  rw[cond_eq_ite]at h⊢;split at h
  case isFalse=>cases h
  rename_i h1;rw[if_pos h1];exact b6k hc hl h
 rename_i i hi;rw[cond_eq_ite]at h⊢;split at h
 case isFalse=>cases h
 rename_i h1;rw[if_pos h1];unfold d9h at h⊢;cases hz:E.zf g with
 |true=>
  rw[hz,cond_true]at h;rw[cond_true];cases hzn:E.zn g with
  |zero=>rw[hzn]at h;exact c6l hc hl _ _ _ _ _ _ (λ_ _ _ _ h=>h) h
  |succ n=>rw[hzn]at h;exact c6m hc hl _ _ _ _ _ _ _ (λ_ _ _ _ h=>h) h
 |false=>rw[hz,cond_false]at h;rw[cond_false];exact a5h hc hl _ _ _ _ _ _ (λ_ _ _ _ h=>h) h
end
inductive Der(E:Env)(M:List Fact):FuncId→List AV→a08→AV×a08→Prop
 |run (g:FuncId) (args:List AV) (H:a08) (r:AV×a08) (c:CallF) (lf:Nat) (hc:∀g a H r,c g a H=some r→Der E M g a H r)
  (hno:∀x∈M,x.g≠g) (h:a5v E c lf g args H=some r):Der E M g args H r
 |fact (x:Fact) (hx:x∈M) (hfirst:∀y∈M,y.g=x.g→y.args=x.args→y.v=x.v):Der E M x.g x.args [] (x.v,[])
open Classical in
noncomputable def d95(c c':CallF):CallF:=λg a H=>match c g a H with|some r=>some r|none=>c' g a H
theorem Der.one{E:Env}{M:List Fact}{g:FuncId}{args:List AV}{H:a08}{r r':AV×a08}(h:Der E M g args H r)(h':Der E M g args H r'):r=r':=by
 induction h generalizing r' with
 |run g args H r c lf hc hno h ih=>
  cases h' with
  |run _ _ _ _ c' lf' hc' hno' h'=>
   have l1:CallF.le c (d95 c c'):=by intro g a H r h;simp[d95,h]
   have l2:CallF.le c' (d95 c c'):=by
    intro g a H r h;unfold d95;cases hcc:c g a H with
    |none=>exact h
    |some s=>exact congrArg some (ih g a H s hcc (hc' g a H r h))
   have e1:=b0j l1 (Nat.le_max_left lf lf') h;have e2:=b0j l2 (Nat.le_max_right lf lf') h';exact z9o (e1.symm.trans e2)
  |fact x hx=>exact absurd rfl (hno x hx)
 |fact x hx hf=>
  generalize hg:x.g=g at h';generalize ha:x.args=args at h';generalize hH:([]:a08)=H at h';cases h' with
  |run _ _ _ _ c' lf' hc' hno' h'=>exact absurd hg (hno' x hx)
  |fact y hy hf'=>rw[hf y hy hg.symm ha.symm]
theorem Der.ok{E:Env}(ok:EnvOk E)(hdr:DrOk E){M:List Fact}(hM:∀x∈M,b07 E x){g:FuncId}{args:List AV}{H:a08}{r:AV×a08}(h:Der E M g args H r) :
 a4j E g (λa H'=>open Classical in if a=args∧H'=H then some r else none):=by
 induction h with
 |run g args H r c lf hc hno h ih=>
  have hcall:a3f E c:=by intro g a H v H' hr;have:=ih g a H (v,H') hr;exact this a H v H' (by simp)
  intro a H' v H'' hr;dsimp only at hr;split at hr
  ·rename_i hh;obtain⟨rfl,rfl⟩:=hh;cases hr;exact c7i ok hdr hcall lf g a H' v H'' h
  ·cases hr
 |fact x hx hf=>
  intro a H' v H'' hr;dsimp only at hr;split at hr
  ·rename_i hh;obtain⟨rfl,rfl⟩:=hh;cases hr;intro I K ρ w cargs h1 h2 h3;exact hM x hx I K ρ w cargs h1 h2 h3
  ·cases hr
open Classical in
noncomputable def sem(E:Env)(M:List Fact):CallF:=λg args H=>if h:∃r,Der E M g args H r then some h.choose else none
section
variable {E:Env}{M:List Fact}
theorem b9p{g:FuncId}{args:List AV}{H:a08}{r:AV×a08}:sem E M g args H=some r↔Der E M g args H r:=by
 unfold sem;constructor
 ·intro h;split at h
  ·rename_i hh;cases h;exact hh.choose_spec
  ·cases h
 ·intro h;have hh:∃r,Der E M g args H r:=⟨r,h⟩
  rw[dif_pos hh];exact congrArg some (Der.one hh.choose_spec h)
theorem a7i{g:FuncId}{args:List AV}{H:a08}{r:AV×a08}(hno:∀x∈M,x.g≠g)(lf:Nat)(h:a5v E (sem E M) lf g args H=some r):sem E M g args H=some r:=b9p.2 (.run g args H r (sem E M) lf (λ_ _ _ _ h=>b9p.1 h) hno h)
theorem sem_ok(ok:EnvOk E)(hdr:DrOk E)(hM:∀x∈M,b07 E x):a3f E (sem E M):=by intro g args H v H' h;exact(Der.ok ok hdr hM (b9p.1 h)) args H v H' (by simp)
end
end Go.Ax
/- AxEv: runs of statements in direct style: what a statement comes to, for a47 loop fuel that is great enough. -/
namespace Go.Ax
def c9d{α β:Type}(x:Option α)(f:α→β)(d:β):β:=match x with|some a=>f a|none=>d
def a17{α β:Type}(x:Option α)(f:α→Option β):Option β:=match x with|some a=>f a|none=>none
@[go_sem] theorem d3o{α β:Type}(a:α)(f:α→Option β):a17 (some a) f=f a:=by rfl
@[congr] theorem d17{α β:Type}{x y:Option α}{f:α→Option β}(h:x=y):a17 x f=a17 y f:=by rw[h]
def a8h(E:Env)(draw:Bool)(N:Nat)(call:CallF)(all:List Oper):List Oper→List LogE→Frm→a08→Option (Frm×a08×List LogE)
 | [],log,F,H=>some (F,H,log)
 |o::rest,log,F,H=>
  bif a5y N o.dst then
   match o.guard with
   |none=>a17 (a1c E draw call F H o.op) λx=>a8h E draw N call all rest (x.2.2::log) (a3k F o.dst x.1) x.2.1
   |some (j,want)=>match a30 all j with
    |none=>none
    |some d=>match a2k F d with
     |.bool b=>bif b then
      (bif want then a17 (a1c E draw call (a3k F (some d) (.bool true)) H o.op) λx=>a8h E draw N call all rest (x.2.2::log) (a3k (a3k F (some d) (.bool true)) o.dst x.1) x.2.1
      else a8h E draw N call all rest (⟨[],[]⟩::log) (a3k (a3k F (some d) (.bool true)) o.dst (.tuple [])) H)
      else
       (bif want then a8h E draw N call all rest (⟨[],[]⟩::log) (a3k (a3k F (some d) (.bool false)) o.dst (.tuple [])) H
       else a17 (a1c E draw call (a3k F (some d) (.bool false)) H o.op) λx=>a8h E draw N call all rest (x.2.2::log) (a3k (a3k F (some d) (.bool false)) o.dst x.1) x.2.1)
     |.tuple []=>a8h E draw N call all rest (⟨[],[]⟩::log) (a3k F o.dst (.tuple [])) H
     |_=>none
  else none
theorem a8p{E:Env}{draw:Bool}{N:Nat}{call:CallF}{all:List Oper}{R:Type}{k:Frm→a08→Option R}:∀(ops:List Oper) (log:List LogE) (F:Frm) (H:a08),
 a26 E draw N call all ops log F H k=(match a8h E draw N call all ops log F H with|some (F',H',log')=>(bif !draw||logOk all log'.length log' then k F' H' else none)|none=>none):=by
 intro ops
 induction ops with
 |nil=>intro log F H;rfl
 |cons o rest ih=>
  intro log F H;have step:∀(F1 F2:Frm),(match a1c E draw call F1 H o.op with
   |some (v,H',l)=>a26 E draw N call all rest (l::log) (a3k F2 o.dst v) H' k
   |none=>none)=(match a17 (a1c E draw call F1 H o.op) λx=>a8h E draw N call all rest (x.2.2::log) (a3k F2 o.dst x.1) x.2.1 with|some (F',H',log')=>(bif !draw||logOk all log'.length log' then k F' H' else none)|none=>none):=by
   intro F1 F2;cases a1c E draw call F1 H o.op with
   |none=>rfl
   |some x=>exact ih _ _ _
  obtain⟨dst,op,ty,pos,after,guard⟩:=o;unfold a26 a8h;cases hd:a5y N dst with
  |false=>rfl
  |true=>
   cases guard with
   |none=>exact step F F
   |some g=>
    obtain⟨j,want⟩:=g;simp only[cond_true];cases hs:a30 all j with
    |none=>rfl
    |some d=>
     simp only;cases hv:a2k F d with
     |bool b=>cases b<;>cases want<;>simp only[cond_true,cond_false]<;>first|exact step _ _|exact ih _ _ _
     |tuple vs=>cases vs with
      |nil=>exact ih _ _ _
      |cons a r=>rfl
     |_=>rfl
structure Cx where
 E:Env
 M:List Fact
 m0:Nat
 N:Nat
 keep:Nat→List Nat
 cur:Nat
def Ev(x:Cx)(c:Code)(F:Frm)(H:a08)(r:AExit×Frm×a08):Prop:=∃n0,∀lf,n0≤lf→∀(R:Type) (k:AExit→Frm→a08→Option R),a3u x.E x.m0 x.N x.keep (sem x.E x.M) lf x.cur c F H k=k r.1 r.2.1 r.2.2
section
variable {x:Cx}{F F1:Frm}{H H1:a08}{r:AExit×Frm×a08}
theorem Ev.skip:Ev x .skip F H (.normal,F,H):=⟨0,λ_ _ _ _=>rfl⟩
theorem Ev.label{l}:Ev x (.label l) F H (.normal,F,H):=⟨0,λ_ _ _ _=>rfl⟩
theorem Ev.leave{id}:Ev x (.exit id) F H (.exit id,F,H):=⟨0,λ_ _ _ _=>rfl⟩
theorem Ev.ret:Ev x .ret F H (.ret,F,H):=⟨0,λ_ _ _ _=>rfl⟩
theorem d19{E:Env}{draw:Bool}{N:Nat}{call:CallF}{all ops:List Oper}{log:List LogE}{F:Frm}{H:a08}{r:Frm×a08×List LogE}(h:a8h E draw N call all ops log F H=some r):c7o ops=none:=by
 unfold c7o;split
 ·rfl
 ·rename_i o rest;split
  ·rename_i it nx h1 h2 h3;obtain⟨d,op,ty,pos,after,guard⟩:=o;simp only at h1 h2 h3;subst h1 h2 h3;unfold a8h at h;have hs:a1c E draw call F H (.next (.tmp it) false)=none:=by
    have:aop E H.length (a04 H) (.next (.tmp it) false) (opv E F)=none:=by show b17 (a04 H) (opv E F (.tmp it)) false=none;unfold b17;split<;>rfl
    unfold a1c;simp only[this]
   rw[cond_eq_ite]at h;split at h
   ·simp only[hs,a17]at h;cases h
   ·cases h
  ·rfl
theorem Ev.region{id ops draw}{log:List LogE}(h:a8h x.E draw x.N (sem x.E x.M) ops.toList ops.toList [] F H=some (F1,H1,log))(hl:(!draw||logOk ops.toList log.length log)=true):Ev x (.region id ops draw) F H (.normal,F1,H1):=⟨0,λ_ _ R k=>by simp only[a3u,d19 h,a8p,h,hl,cond_true]⟩
theorem Ev.seq{a b}(h:Ev x a F H (.normal,F1,H1))(h2:Ev x b F1 H1 r):Ev x (.seq a b) F H r:=by obtain⟨n,h⟩:=h;obtain⟨m,h2⟩:=h2;exact⟨max n m,λlf hl R k=>by simp only[a3u];rw[h lf (by omega)];exact h2 lf (by omega) R k⟩
theorem Ev.seq_ret{a b}(h:Ev x a F H (.ret,F1,H1)):Ev x (.seq a b) F H (.ret,F1,H1):=by obtain⟨n,h⟩:=h;exact⟨n,λlf hl R k=>by simp only[a3u];rw[h lf hl]⟩
theorem Ev.seq_exit{a b id}(h:Ev x a F H (.exit id,F1,H1)):Ev x (.seq a b) F H (.exit id,F1,H1):=by obtain⟨n,h⟩:=h;exact⟨n,λlf hl R k=>by simp only[a3u];rw[h lf hl]⟩
theorem Ev.cond_t{c a b}(hc:opv x.E F c = .bool true)(h:Ev x a F H r):Ev x (.cond c a b) F H r:=by obtain⟨n,h⟩:=h;exact⟨n,λlf hl R k=>by simp only[a3u,hc,cond_true];exact h lf hl R k⟩
theorem Ev.cond_f{c a b}(hc:opv x.E F c = .bool false)(h:Ev x b F H r):Ev x (.cond c a b) F H r:=by obtain⟨n,h⟩:=h;exact⟨n,λlf hl R k=>by simp only[a3u,hc,cond_false];exact h lf hl R k⟩
theorem Ev.block{id b}(h:Ev { x with cur:=id } b F H (.normal,F1,H1)):Ev x (.block id b) F H (.normal,F1,H1):=by obtain⟨n,h⟩:=h;exact⟨n,λlf hl R k=>by simp only[a3u];rw[h lf hl]⟩
theorem Ev.block_ret{id b}(h:Ev { x with cur:=id } b F H (.ret,F1,H1)):Ev x (.block id b) F H (.ret,F1,H1):=by obtain⟨n,h⟩:=h;exact⟨n,λlf hl R k=>by simp only[a3u];rw[h lf hl]⟩
theorem Ev.block_exit{id b}(h:Ev { x with cur:=id } b F H (.exit id,F1,H1)):Ev x (.block id b) F H (.normal,F1,H1):=by obtain⟨n,h⟩:=h;exact⟨n,λlf hl R k=>by simp only[a3u];rw[h lf hl];simp⟩
theorem Ev.block_on{id id' b}(h:Ev { x with cur:=id } b F H (.exit id',F1,H1))(hne:(id'==id)=false):Ev x (.block id b) F H (.exit id',F1,H1):=by obtain⟨n,h⟩:=h;exact⟨n,λlf hl R k=>by simp only[a3u];rw[h lf hl];simp only[hne,cond_false]⟩
theorem Ev.scope{b}(h:Ev x b F H r):Ev x (.scope b) F H r:=by obtain⟨n,h⟩:=h;exact⟨n,λlf hl R k=>by simp only[a3u];exact h lf hl R k⟩
def EvL(x:Cx)(b:Code)(F:Frm)(H:a08)(r:AExit×Frm×a08):Prop:=
 ∃n0,∀lf,n0≤lf→∀n,n0≤n→∀(R:Type) (k:AExit→Frm→a08→Option R),
  b1u x.m0 (x.keep x.cur) (λF H k=>a3u x.E x.m0 x.N x.keep (sem x.E x.M) lf x.cur b F H k) n F H k=k r.1 r.2.1 r.2.2
theorem Ev.loop{b}(hx:a9l b=none)(hz:d3x (x.keep x.cur)=false)(h:EvL x b F H r):Ev x (.loop b) F H r:=by obtain⟨n,h⟩:=h;exact⟨n,λlf hl R k=>by simp only[a3u,hx,hz,cond_false];exact h lf hl lf hl R k⟩
theorem c5h{m0:Nat}{keep:List Nat}(hg:gcD m0 keep F H=some (F1,H1)) :
 (a2a (a7w m0 (a5w keep F) H)&&(a7w m0 (a5w keep F) H).all (λb=>Nat.ble m0 b)&&Nat.ble m0 H.length)=true∧c37 (b8l m0 (a7w m0 (a5w keep F) H)) (a5w keep F)=F1∧gcH m0 (a7w m0 (a5w keep F) H) H=H1:=by
 unfold gcD at hg;simp only[cond_eq_ite]at hg;split at hg
 case isFalse=>cases hg
 rename_i hc;cases hg;exact⟨hc,rfl,rfl⟩
theorem EvL.leave{b:Code}{F2:Frm}{H2:a08}{e:AExit}(hg:gcD x.m0 (x.keep x.cur) F H=some (F1,H1))(h:Ev x b F1 H1 (e,F2,H2))(he:e≠ .normal):EvL x b F H (e,F2,H2):=by
 obtain⟨n0,h⟩:=h;refine⟨n0+1,λlf hl n hn R k=>?_⟩;obtain⟨n,rfl⟩:∃l,n=l+1:=⟨n-1,by omega⟩
 obtain⟨h1,h2,h3⟩:=c5h hg;simp only[b1u,h1,h2,h3,cond_true];rw[h lf (by omega)];cases e with
 |normal=>exact absurd rfl he
 |exit id=>rfl
 |ret=>rfl
theorem EvL.again{b:Code}{F2:Frm}{H2:a08}(hg:gcD x.m0 (x.keep x.cur) F H=some (F1,H1))(h:Ev x b F1 H1 (.normal,F2,H2))(h':EvL x b F2 H2 r):EvL x b F H r:=by
 obtain⟨n0,h⟩:=h;obtain⟨m0,h'⟩:=h';refine⟨max n0 m0+1,λlf hl n hn R k=>?_⟩;obtain⟨n,rfl⟩:∃l,n=l+1:=⟨n-1,by omega⟩
 obtain⟨h1,h2,h3⟩:=c5h hg;simp only[b1u,h1,h2,h3,cond_true];rw[h lf (by omega)];exact h' lf (by omega) n (by omega) R k
theorem c0m{E:Env}{M:List Fact}{g:FuncId}{args:List AV}{H:a08}{code:Code}{N:Nat}{results:List ResultVar}{e:AExit}{F':Frm}{H':a08}{vs:List AV}{v:AV}{H2:a08}
 (hfn:E.fn g=some ⟨code,N,results⟩)(hno:∀y∈M,y.g≠g)(hN:Nat.ble args.length N=true)(h:Ev ⟨E,M,H.length,N,E.keep g,0⟩ code (a3l 0 args) H (e,F',H'))(he:∀id,e≠ .exit id)
 (hr:a1m E F' H' results=some vs)(hfin:a5s (E.thaw g) H.length (a7q vs) H'=some (v,H2))(hp:E.prim g args=none)(hz:E.zf g=false)(hw:E.raw g=false):sem E M g args H=some (v,H2):=by
 obtain⟨n,h⟩:=h;refine a7i hno n ?_;unfold a5v;have hph:primH E g args H=none:=b57 hp;rw[hph,hfn];simp only;rw[hN];simp only[cond_true];unfold d9h;rw[hz];simp only[cond_false];refine(h n (Nat.le_refl _) _ _).trans ?_;cases e with
 |exit id=>exact absurd rfl (he id)
 |normal=>simp only[hr,c9p,hw];exact hfin
 |ret=>simp only[hr,c9p,hw];exact hfin
end
end Go.Ax
/- AxSimp: the evaluator's steps as rewrite rules. -/
namespace Go.Ax
section
variable {E:Env}{draw:Bool}{N:Nat}{call:CallF}{all rest:List Oper}{log:List LogE}{F:Frm}{H:a08}
@[go_sem] theorem d8y(s:Nat)(v:AV)(r:Frm):a2k ((s,v)::r) s=v:=by simp only[a2k,c3a,cond_eq_ite,beq_self_eq_true,if_true]
@[go_sem] theorem d6k{s t:Nat}(h:(s=t)=False)(v:AV)(r:Frm):a2k ((s,v)::r) t=a2k r t:=by have:¬s=t:=λe=>h▸e;simp only[a2k,c3a,cond_eq_ite,beq_iff_eq,if_neg this]
@[go_sem] theorem d52(d:Nat)(v:AV):a3k F (some d) v=(d,v)::F:=by rfl
@[go_sem] theorem d53(v:AV):a3k F none v=F:=by rfl
@[go_sem] theorem e0q(t:Nat):opv E F (.tmp t)=a2k F t:=by rfl
@[go_sem] theorem d8j(f:Nat):opv E F (.func f) = .func (.func f) [] []:=by rfl
@[go_sem] theorem d8k(b:Bool):opv E F (.const (.bool b)) = .bool b:=by rfl
@[go_sem] theorem e0s(k:IntKind)(n:Int):opv E F (.const (.int k n)) = .int k n:=by rfl
@[go_sem] theorem c9b:opv E F (.const (.slice none 0 0)) = .nilslice:=by rfl
@[go_sem] theorem e0r(s:ByteArray):opv E F (.const (.string s)) = .str s.data.toList:=by rfl
@[go_sem] theorem d85:a8h E draw N call all [] log F H=some (F,H,log):=by rfl
@[go_sem] theorem d3z(d:Nat):a5y N (some d)=decide (d<N):=by rw[a5y,Bool.eq_iff_iff];simp[Nat.blt_eq]
@[go_sem] theorem d40:a5y N none=true:=by rfl
theorem d0v(dst:Option Nat)(op:Op)(ty:TypeId)(pos:String)(after:Array Edge) :
 a8h E draw N call all ({ dst:=dst,op:=op,type:=ty,pos:=pos,after:=after,guard:=none }::rest) log F H =
  bif a5y N dst then a17 (a1c E draw call F H op) λx=>a8h E draw N call all rest (x.2.2::log) (a3k F dst x.1) x.2.1 else none:=by
 rfl
def c97(E:Env)(draw:Bool)(N:Nat)(call:CallF)(all:List Oper)(dst:Option Nat)(op:Op)(rest:List Oper)(log:List LogE)(F:Frm)(H:a08)(d:Nat)(want:Bool):AV→Option (Frm×a08×List LogE)
 |.bool b=>bif b then
  (bif want then a17 (a1c E draw call (a3k F (some d) (.bool true)) H op) λx=>a8h E draw N call all rest (x.2.2::log) (a3k (a3k F (some d) (.bool true)) dst x.1) x.2.1
  else a8h E draw N call all rest (⟨[],[]⟩::log) (a3k (a3k F (some d) (.bool true)) dst (.tuple [])) H)
  else
   (bif want then a8h E draw N call all rest (⟨[],[]⟩::log) (a3k (a3k F (some d) (.bool false)) dst (.tuple [])) H
   else a17 (a1c E draw call (a3k F (some d) (.bool false)) H op) λx=>a8h E draw N call all rest (x.2.2::log) (a3k (a3k F (some d) (.bool false)) dst x.1) x.2.1)
 |.tuple []=>a8h E draw N call all rest (⟨[],[]⟩::log) (a3k F dst (.tuple [])) H
 |_=>none
theorem c23(dst:Option Nat)(op:Op)(ty:TypeId)(pos:String)(after:Array Edge)(j:Nat)(want:Bool) :
 a8h E draw N call all ({ dst:=dst,op:=op,type:=ty,pos:=pos,after:=after,guard:=some (j,want) }::rest) log F H =
  bif a5y N dst then a17 (a30 all j) λd=>c97 E draw N call all dst op rest log F H d want (a2k F d)else none:=by
 unfold a8h;cases a5y N dst with
 |false=>rfl
 |true=>
  simp only[cond_true];cases a30 all j with
  |none=>rfl
  |some d=>simp only[a17];unfold c97;rfl
section
variable {dst:Option Nat}{op:Op}{d:Nat}
theorem d0r:c97 E draw N call all dst op rest log F H d true (.bool true)=a17 (a1c E draw call ((d,.bool true)::F) H op) λx=>a8h E draw N call all rest (x.2.2::log) (a3k ((d,.bool true)::F) dst x.1) x.2.1:=by rfl
theorem d0s:c97 E draw N call all dst op rest log F H d true (.bool false)=a8h E draw N call all rest (⟨[],[]⟩::log) (a3k ((d,.bool false)::F) dst (.tuple [])) H:=by rfl
theorem d0t:c97 E draw N call all dst op rest log F H d false (.bool true)=a8h E draw N call all rest (⟨[],[]⟩::log) (a3k ((d,.bool true)::F) dst (.tuple [])) H:=by rfl
theorem d0u:c97 E draw N call all dst op rest log F H d false (.bool false)=a17 (a1c E draw call ((d,.bool false)::F) H op) λx=>a8h E draw N call all rest (x.2.2::log) (a3k ((d,.bool false)::F) dst x.1) x.2.1:=by rfl
end
attribute [go_sem] d0v c23 d0r d0s d0t d0u
@[congr] theorem d3g{dst:Option Nat}{op:Op}{d:Nat}{want:Bool}{v v':AV}(h:v=v'):c97 E draw N call all dst op rest log F H d want v=c97 E draw N call all dst op rest log F H d want v':=by rw[h]
/-! ### one operation -/
@[go_sem] theorem e08(x:Operand):a1c E draw call F H (.move x)=some (opv E F x,H,⟨[],[]⟩):=by rfl
@[go_sem] theorem d4x(x:Operand):a1c E draw call F H (.assign x)=some (opv E F x,H,⟨[],[]⟩):=by rfl
theorem a2f{op:Op}{v:Option AV}(h:aop E H.length (a04 H) op (opv E F)=v.map (·,.none))(hs:a1c E draw call F H op=match aop E H.length (a04 H) op (opv E F)with
 |some (v,e)=>bif e.fits H.length then some (v,a92 H e,⟨a84 op (opv E F),e.keys H.length⟩)else none
 |none=>none):a1c E draw call F H op=a17 v λv=>some (v,H,⟨a84 op (opv E F),[]⟩):=by
 rw[hs,h];cases v<;>rfl
@[go_sem] theorem e1q(op:BinOp)(t:TypeId)(x y:Operand)(z):a1c E draw call F H (.binOp op t x y z)=a17 (a93 E op t (opv E F x) (opv E F y) (a44 x||a44 y)) λv=>some (v,H,⟨[],[]⟩):=a2f rfl rfl
@[go_sem] theorem e41(op:UnOp)(t:TypeId)(x:Operand):a1c E draw call F H (.unOp op t x)=a17 (aun op (opv E F x)) λv=>some (v,H,⟨[],[]⟩):=a2f rfl rfl
@[go_sem] theorem e0a(s d:TypeId)(x:Operand):a1c E draw call F H (.convert s d x)=a17 (a8k E (a04 H) s d (opv E F x)) λv=>some (v,H,⟨a12 (opv E F x),[]⟩):=a2f rfl rfl
@[go_sem] theorem e09(t:TypeId)(x:Operand):a1c E draw call F H (.load t x)=a17 (a77 E (a04 H) t (opv E F x)) λv=>some (v,H,⟨a12 (opv E F x),[]⟩):=a2f rfl rfl
@[go_sem] theorem d7y(t:TypeId)(x:Operand)(lo hi mx:Option Operand):a1c E draw call F H (.slice t x lo hi mx)=a17 (a1v E (a04 H) t (opv E F x) (lo.map (opv E F)) (hi.map (opv E F)) (mx.map (opv E F))) λv=>some (v,H,⟨a12 (opv E F x),[]⟩):=a2f rfl rfl
@[go_sem] theorem c94(t:TypeId)(x:Operand)(f:Nat):a1c E draw call F H (.fieldAddr t x f)=a17 (a58 E t (opv E F x) f) λv=>some (v,H,⟨[],[]⟩):=a2f rfl rfl
@[go_sem] theorem c93(t:TypeId)(x i:Operand):a1c E draw call F H (.indexAddr t x i)=a17 (a1o E (a04 H) t (opv E F x) (opv E F i)) λv=>some (v,H,⟨a12 (opv E F x),[]⟩):=a2f rfl rfl
@[go_sem] theorem d80(t:TypeId)(x i:Operand):a1c E draw call F H (.index t x i)=a17 (b60 E t (opv E F x) (opv E F i)) λv=>some (v,H,⟨[],[]⟩):=a2f rfl rfl
@[go_sem] theorem d82(t:TypeId)(ps:Array (Nat×Operand)):a1c E draw call F H (.build t ps)=a17 (b63 E t (ps.toList.map λp=>(p.1,opv E F p.2))) λv=>some (v,H,⟨[],[]⟩):=a2f rfl rfl
@[go_sem] theorem d4v(t:TypeId)(x k:Operand)(o:Bool):a1c E draw call F H (.lookup t x k o)=a17 (oor (a2t E (a04 H) t (opv E F x) (opv E F k) o) (b4e E (a04 H) t (opv E F x) (opv E F k) o)) λv=>some (v,H,⟨a12 (opv E F x),[]⟩):=a2f rfl rfl
@[go_sem] theorem b9k(fn:Fn)(first cap:Array Operand):a1c E draw call F H (.makeFunc fn first cap)=some (.func fn (first.toList.map (opv E F)) (cap.toList.map (opv E F)),H,⟨[],[]⟩):=by rfl
def b91(c a b:AV):Option AV:=match c with|.bool t=>some (b4p t a b)|_=>none
@[go_sem] theorem e06(c a b:Operand):a1c E draw call F H (.pick c a b)=a17 (b91 (opv E F c) (opv E F a) (opv E F b)) λv=>some (v,H,⟨[],[]⟩):=by refine a2f ?_ rfl;simp only[aop,b91];cases opv E F c<;>rfl
@[go_sem] theorem d2o(t a b:Bool):b91 (.bool t) (.bool a) (.bool b)=some (.bool (bif t then a else b)):=by rfl
@[go_sem] theorem d2n(a b:AV):b91 (.bool true) a b=some (b4p true a b):=by rfl
@[go_sem] theorem c9z(a b:AV):b91 (.bool false) a b=some (b4p false a b):=by rfl
theorem d2l(a b:AV):b4p true a b=a:=by unfold b4p;split<;>simp
theorem d2m(a b:AV):b4p false a b=b:=by unfold b4p;split<;>simp
attribute [go_sem] d2l d2m
def b92(x:AV):Option AV:=match x with
 |.ptr b i o=>some (.ptr b i o)
 |.iptr cs=>some (.iptr cs)
 |.func (.func f) fs cs=>some (.func (.func f) fs cs)
 |_=>none
attribute [go_sem] b92
@[go_sem] theorem d0e(x:Operand):a1c E draw call F H (.nilCheck x)=a17 (b92 (opv E F x)) λv=>some (v,H,⟨[],[]⟩):=by
 refine a2f ?_ rfl;simp only[aop];generalize opv E F x=y;cases y<;>try rfl
 rename_i fn _ _;cases fn<;>rfl
def b7d(x:AV)(i:Nat):Option AV:=match x with|.tuple vs=>vs[i]?|_=>none
attribute [go_sem] b7d
@[go_sem] theorem d3b(t:Operand)(i:Nat):a1c E draw call F H (.extract t i)=a17 (b7d (opv E F t) i) λv=>some (v,H,⟨[],[]⟩):=by
 refine a2f ?_ rfl;simp only[aop,b7d];cases opv E F t with
 |tuple vs=>simp only;cases vs[i]?<;>rfl
 |_=>rfl
theorem a4l{op:Op}{v:Option (AV×Eff)}(h:aop E H.length (a04 H) op (opv E F)=v)(hs:a1c E draw call F H op=match aop E H.length (a04 H) op (opv E F)with
 |some (v,e)=>bif e.fits H.length then some (v,a92 H e,⟨a84 op (opv E F),e.keys H.length⟩)else none
 |none=>none){n:List Nat}(hn:a84 op (opv E F)=n):a1c E draw call F H op=a17 v λx=>bif x.2.fits H.length then some (x.1,a92 H x.2,⟨n,x.2.keys H.length⟩)else none:=by
 rw[hs,h];subst hn;cases v<;>rfl
@[go_sem] theorem d83(t:TypeId):a1c E draw call F H (.alloc t)=a17 (d2q E H.length t) λx=>bif x.2.fits H.length then some (x.1,a92 H x.2,⟨[],x.2.keys H.length⟩)else none:=a4l rfl rfl rfl
@[go_sem] theorem e1p(t:TypeId)(x:Operand):a1c E draw call F H (.box t x)=a17 (d2z H.length (opv E F x)) λx=>bif x.2.fits H.length then some (x.1,a92 H x.2,⟨[],x.2.keys H.length⟩)else none:=a4l rfl rfl rfl
@[go_sem] theorem d7x(t:TypeId)(a x:Operand):a1c E draw call F H (.store t a x)=a17 (a7c E (a04 H) t (opv E F a) (opv E F x)) λe=>bif e.fits H.length then some (.tuple [],a92 H e,⟨a12 (opv E F a),e.keys H.length⟩)else none:=by refine(a4l (v:=(a7c E (a04 H) t (opv E F a) (opv E F x)).map (.tuple [],·)) rfl rfl rfl).trans ?_;cases a7c E (a04 H) t (opv E F a) (opv E F x)<;>rfl
@[go_sem] theorem c7e(t:TypeId)(n:Nat)(ps:Array (Nat×Operand)):a1c E draw call F H (.buildSlice t n ps)=a17 (a3e E H.length t n (ps.toList.map λp=>(p.1,opv E F p.2))) λx=>bif x.2.fits H.length then some (x.1,a92 H x.2,⟨[],x.2.keys H.length⟩)else none:=a4l rfl rfl rfl
@[go_sem] theorem c92(t:TypeId)(l c:Operand):a1c E draw call F H (.makeSlice t l c)=a17 (a3z E H.length t (opv E F l) (opv E F c)) λx=>bif x.2.fits H.length then some (x.1,a92 H x.2,⟨[],x.2.keys H.length⟩)else none:=a4l rfl rfl rfl
@[go_sem] theorem d3a(t:TypeId):a1c E draw call F H (.makeMap t none)=some (.map H.length,H++[some (b5b E t)],⟨[],[H.length]⟩):=by rfl
@[go_sem] theorem d4w(t:TypeId)(m k x:Operand):a1c E draw call F H (.insert t m k x)=a17 (oor (a0m E (a04 H) t (opv E F m) (opv E F k) (opv E F x)) (b4o E (a04 H) t (opv E F m) (opv E F k) (opv E F x))) λe=>bif e.fits H.length then some (.tuple [],a92 H e,⟨a12 (opv E F m),e.keys H.length⟩)else none:=by refine(a4l (v:=(oor (a0m E (a04 H) t (opv E F m) (opv E F k) (opv E F x)) (b4o E (a04 H) t (opv E F m) (opv E F k) (opv E F x))).map (.tuple [],·)) rfl rfl rfl).trans ?_;cases oor (a0m E (a04 H) t (opv E F m) (opv E F k) (opv E F x)) (b4o E (a04 H) t (opv E F m) (opv E F k) (opv E F x))<;>rfl
@[go_sem] theorem d7z(t:TypeId)(x:Operand):a1c E draw call F H (.range t x)=a17 (oor (b4b E H.length t (opv E F x)) (b4a E H.length t (opv E F x))) λx=>bif x.2.fits H.length then some (x.1,a92 H x.2,⟨[],x.2.keys H.length⟩)else none:=a4l rfl rfl rfl
@[go_sem] theorem e07(it:Operand)(b:Bool):a1c E draw call F H (.next it b)=a17 (b17 (a04 H) (opv E F it) b) λx=>bif x.2.fits H.length then some (x.1,a92 H x.2,⟨a12 (opv E F it),x.2.keys H.length⟩)else none:=a4l rfl rfl rfl
@[go_sem] theorem e1o(x:Operand)(t:TypeId):a1c E draw call F H (.call { callee:=.builtin .len,args:=#[x],argTypes:=#[t] })=a17 (b9e E (a04 H) t (opv E F x)) λv=>some (v,H,⟨a12 (opv E F x),[]⟩):=by refine(a2f (v:=b9e E (a04 H) t (opv E F x)) rfl rfl).trans ?_;simp[a84]
@[go_sem] theorem e1n(x:Operand)(xs:List Operand)(ts:Array TypeId):a1c E draw call F H (.call { callee:=.builtin .min,args:=⟨x::xs⟩,argTypes:=ts })=a17 (d46 (opv E F x) (xs.map (opv E F))) λv=>some (v,H,⟨(x::xs).flatMap λx=>a12 (opv E F x),[]⟩):=a2f rfl rfl
@[go_sem] theorem d4y(x y:Operand)(t u:TypeId):a1c E draw call F H (.call { callee:=.builtin .append,args:=#[x,y],argTypes:=#[t,u] })=a17 (oor (a48 E (a04 H) H.length t u (opv E F x) (opv E F y)) (a3j E H.length t u (opv E F x) (opv E F y))) λz=>bif z.2.fits H.length then some (z.1,a92 H z.2,⟨a12 (opv E F x)++a12 (opv E F y),z.2.keys H.length⟩)else none:=a4l rfl rfl (by simp[a84])
@[go_sem] theorem d4b{E:Env}{n:Nat}{t u:TypeId}{x:AV}{b off len:Nat}{cap:Option Nat}:a3j E n t u (.slice b off len cap) x=none:=by unfold a3j;rfl
@[go_sem] theorem d32{E:Env}{n:Nat}{t u:TypeId}{b off len:Nat}{cap:Option Nat}:a3j E n t u .nilslice (.slice b off len cap)=none:=by unfold a3j;rfl
@[go_sem] theorem d8m{α:Type}(x:Option α):oor x none=x:=by cases x<;>rfl
@[go_sem] theorem d8l{α:Type}(x:α)(y:Option α):oor (some x) y=some x:=by rfl
@[go_sem] theorem d0w{g:FuncId}{fs cs:List AV}{H H':a08}{σ:List Nat}:a68 E (.func (.func g) fs cs) H H' σ=(E.ro g&&σ.all λb=>b0g (a04 H b) (a04 H' b)):=by rfl
@[go_sem] theorem d76{α:Type}(b:Bool)(x:α):(bif b then x else x)=x:=by cases b<;>rfl
@[go_sem] theorem d3p(ro:Bool)(σ:List Nat)(n:Nat):b4j ro σ n n=bif ro then[]else σ:=by unfold b4j;rw[cond_eq_ite,if_pos (by rw[Nat.beq_eq])]
attribute [go_sem] List.range'_succ List.range'_zero
@[go_sem] theorem e0b(f:Operand)(args:Array Operand)(ts:Array TypeId):a1c E draw call F H (.call { callee:=.value f,args:=args,argTypes:=ts })=a17 (a0j E draw call (opv E F f) (args.toList.map (opv E F)) H) λx=>some (x.1,x.2.1,⟨x.2.2,b4j (a68 E (opv E F f) H x.2.1 x.2.2) x.2.2 H.length x.2.1.length⟩):=by simp only[a1c];cases a0j E draw call (opv E F f) (args.toList.map (opv E F)) H<;>rfl
end
/-! ### tables read by type -/
section
variable (E:Env)
def b7b(t:TypeId):Option Bool:=(E.und t).map a2l
def b4l(t:TypeId)(f:Nat):Option (Nat×TypeId):=match E.und t with|some (.struct fs)=>(fs[f]?).map λd=>(d.offset,d.type)|_=>none
def c9t(t:TypeId):Bool:=match E.und t with
 |some (.struct fs)=>fs.toList.all (λf=>(E.und f.type).isSome)
 |some (.array _ e)=>(E.und e).isSome
 |_=>false
def b7h(t:TypeId)(i:Nat):Option (Nat×Nat):=match E.und t with
 |some (.struct fs)=>(fs[i]?).map λf=>(f.offset,E.sz f.type)
 |some (.array _ e)=>some (i*E.sz e,E.sz e)
 |_=>none
def isT(t:TypeId):Bool:=(E.und t).isSome
end
section
variable {E:Env}{h:FHeap}
def d16:Option Bool→List AV→Option AV
 |some true,cs=>some (.agg cs)
 |some false,cs=>cs.head?
 |none,_=>none
attribute [go_sem] d16 List.head?_cons
@[go_sem] theorem d5s(t:TypeId)(cs:List AV):a2p E t cs=bif decide (cs.length=E.sz t)then d16 (b7b E t) cs else none:=by
 unfold a2p b7b;have e:(cs.length==E.sz t)=decide (cs.length=E.sz t):=by by_cases h:cs.length=E.sz t<;>simp[h]
 rw[e];cases E.und t with
 |none=>cases decide (cs.length=E.sz t)<;>rfl
 |some d=>cases decide (cs.length=E.sz t)<;>simp[d16]<;>cases a2l d<;>rfl
def fieldAt(E:Env)(p:AV)(o:Nat)(t:TypeId):Option AV:=
 bif decide (E.sz t≠0)&&isT E t then match p with
  |.ptr b i q=>some (.ptr b i (q+o))
  |.iptr cs=>some (.iptr (cs.drop o))
  |_=>none
 else none
attribute [go_sem] fieldAt
@[go_sem] theorem d02(t:TypeId)(p:AV)(f:Nat):a58 E t p f=a17 (b4l E t f) λx=>fieldAt E p x.1 x.2:=by
 unfold a58 b4l fieldAt isT;cases E.und t with
 |none=>rfl
 |some d=>
  cases d<;>try rfl
  rename_i fs;simp only;cases fs[f]? with
  |none=>rfl
  |some fd=>
   by_cases h:E.sz fd.type=0
   ·simp[h,a17]
   ·have e:(E.sz fd.type==0)=false:=beq_eq_false_iff_ne.2 h;simp[h,e,a17];rfl
@[go_sem] theorem d9i(t:TypeId)(parts:List (Nat×AV)):b63 E t parts=bif c9t E t then a17 (E.zero t) λz=>a17 (b18 (b7h E t) z parts) λcs=>some (.agg cs)else none:=by
 unfold b63 c9t b7h;cases hz:E.zero t with
 |none=>
  simp only[a17];cases E.und t with
  |none=>rfl
  |some d=>cases d<;>simp
 |some z=>
  cases hu:E.und t with
  |none=>rfl
  |some d=>
   cases d<;>try rfl
   ·simp only[a17];split<;>simp_all<;>split<;>simp_all<;>rfl
   ·simp only[a17];split<;>simp_all<;>split<;>simp_all<;>rfl
end
/-! ### values -/
section
variable {E:Env}{h:FHeap}{t:TypeId}{k:IntKind}{a b:Int}{p q:Bool}{c:Bool}
theorem ikb(k:IntKind):(k==k)=true:=by cases k<;>rfl
@[go_sem] theorem d9u:a93 E .add t (.int k a) (.int k b) c=some (.int k (k.wrap (a+b))):=by simp only[a93,ikb,c1v,cond_true]
@[go_sem] theorem d9j:a93 E .sub t (.int k a) (.int k b) c=some (.int k (k.wrap (a-b))):=by simp only[a93,ikb,c1v,cond_true]
@[go_sem] theorem d9n:a93 E .mul t (.int k a) (.int k b) c=some (.int k (k.wrap (a*b))):=by simp only[a93,ikb,c1v,cond_true]
@[go_sem] theorem d9l(hb:(b=0)=False):a93 E .rem t (.int k a) (.int k b) c=some (.int k (a.tmod b)):=by
 have:(b==0)=false:=by rw[beq_eq_false_iff_ne];exact λe=>hb▸e
 simp only[a93,ikb,c1v,cond_true,this,cond_false]
def a3s(k:IntKind)(a b:Int):Int:=k.wrap (BitVec.ofInt k.bits a&&&BitVec.ofInt k.bits b).toNat
@[go_sem] theorem d9t:a93 E .and t (.int k a) (.int k b) c=some (.int k (a3s k a b)):=by simp only[a93,ikb,c1v,cond_true,a3s]
theorem e3l(a b:Int):(a==b)=decide (a=b):=by
 by_cases h:a=b
 ·subst h;simp
 ·rw[beq_eq_false_iff_ne.2 h,decide_eq_false h]
@[go_sem] theorem d9s:a93 E .eql t (.int k a) (.int k b) c=some (.bool (decide (a=b))):=by simp only[a93,ikb,c1v,cond_true,e3l]
@[go_sem] theorem d9m:a93 E .neq t (.int k a) (.int k b) c=some (.bool (!decide (a=b))):=by simp only[a93,ikb,c1v,cond_true,bne,e3l]
@[go_sem] theorem d9o:a93 E .lss t (.int k a) (.int k b) c=some (.bool (decide (a<b))):=by simp only[a93,ikb,c1v,cond_true]
@[go_sem] theorem d9p:a93 E .leq t (.int k a) (.int k b) c=some (.bool (decide (a≤b))):=by simp only[a93,ikb,c1v,cond_true]
@[go_sem] theorem d9q:a93 E .gtr t (.int k a) (.int k b) c=some (.bool (decide (b<a))):=by simp only[a93,ikb,c1v,cond_true]
@[go_sem] theorem d9r:a93 E .geq t (.int k a) (.int k b) c=some (.bool (decide (b≤a))):=by simp only[a93,ikb,c1v,cond_true]
@[go_sem] theorem e67(b:Bool):(b==b)=true:=by cases b<;>rfl
@[go_sem] theorem e66:(false==true)=false:=by rfl
@[go_sem] theorem d7o(ht:E.und t=some .bool):a93 E .eql t (.bool p) (.bool q) c=some (.bool (p==q)):=by simp[a93,AV.eqShape,aeq,ht]
@[go_sem] theorem d9k{op:BinOp}{x y:List UInt8}(h1:op≠ .shl:=by decide)(h2:op≠ .shr:=by decide):a93 E op t (.str x) (.str y) c=d2g op x y:=by cases op<;>first|rfl|exact absurd rfl h1|exact absurd rfl h2
@[go_sem] theorem e1h:aun .not (.bool p)=some (.bool (!p)):=by rfl
@[go_sem] theorem d4d(o:Option AObj)(r:a08):a04 (o::r) 0=o:=by simp[a04]
@[go_sem] theorem d4e(o:Option AObj)(r:a08)(n:Nat):a04 (o::r) (n+1)=a04 r n:=by simp[a04]
@[go_sem] theorem d7r(n:Nat):a04 [] n=none:=by rfl
def slT(E:Env)(t:TypeId):Option TypeId:=match E.und t with|some (.slice e)=>some e|_=>none
theorem a4c{e:TypeId}:slT E t=some e↔E.und t=some (.slice e):=by
 unfold slT;constructor
 ·intro h;split at h
  ·rename_i heq;cases h;exact heq
  ·cases h
 ·intro h;rw[h]
def b1s:Option AObj→Option (Nat×List (List AV))
 |some (.row k rows)=>some (k,rows)
 |_=>none
attribute [go_sem] b1s
def b6l(rows:List (List AV))(i:Int):Option (List AV):=if 0≤i then rows[i.toNat]? else none
@[go_sem] theorem d58(rows:List (List AV))(n:Nat):b6l rows (n:Int)=rows[n]?:=by simp[b6l]
theorem c49{rows:List (List AV)}{i:Int}(h:0≤i):b6l rows i=rows[i.toNat]?:=by simp[b6l,h]
def inR(i:Int)(n:Nat):Bool:=decide (0≤i)&&decide (i<n)
@[go_sem] theorem b3c(j n:Nat):inR (j:Int) n=decide (j<n):=by
 unfold inR;rw[decide_eq_true (by omega:(0:Int)≤j),Bool.true_and];by_cases h:j<n
 ·rw[decide_eq_true h,decide_eq_true (by omega)]
 ·rw[decide_eq_false h,decide_eq_false (by omega)]
theorem b2d{i:Int}{n:Nat}:c31 (.int k i) n=bif inR i n then some i.toNat else none:=rfl
@[go_sem] theorem d48{b o n:Nat}{cp:Option Nat}(hs:(slT E t).isSome=true):b9e E h t (.slice b o n cp)=some (.int .i64 n):=by obtain⟨e,he⟩:=Option.isSome_iff_exists.1 hs;simp only[b9e,a4c.1 he]
@[go_sem] theorem d9f(hs:(slT E t).isSome=true):b9e E h t .nilslice=some (.int .i64 0):=by obtain⟨e,he⟩:=Option.isSome_iff_exists.1 hs;simp only[b9e,a4c.1 he]
def d39(E:Env)(t:TypeId):Bool:=match E.und t with|some .string=>true|_=>false
theorem b6d:d39 E t=true→E.und t=some .string:=by
 unfold d39;intro h;split at h
 ·rename_i heq;exact heq
 ·cases h
@[go_sem] theorem d9e{s:List UInt8}(hs:d39 E t=true):b9e E h t (.str s)=some (.int .i64 s.length):=by simp only[b9e,b6d hs]
def d6a(E:Env)(e:Option TypeId)(r:Option (List AV)):Option AV:=match e,r with
 |some e,some r=>bif isT E e&&decide (r.length=E.sz e)then some (.iptr r)else none
 |_,_=>none
attribute [go_sem] d6a
theorem b9d(a b:Nat):(a==b)=decide (a=b):=by
 by_cases h:a=b
 ·subst h;simp
 ·rw[beq_eq_false_iff_ne.2 h,decide_eq_false h]
@[go_sem] theorem b3e{rows:List (List AV)}{cp:Option Nat}{i:Int}:a1o E h t (.islice rows cp) (.int k i)=match slT E t with|some e=>d6a E (some e) (b6l rows i)|none=>a1o E h t (.islice rows cp) (.int k i):=by
 cases hs:slT E t with
 |none=>rfl
 |some e=>
  have hu:=a4c.1 hs;simp only[a1o,hu,b2d,inR,d6a,isT];by_cases h0:0≤i
  ·rw[decide_eq_true h0,c49 h0];by_cases h1:i<rows.length
   ·rw[decide_eq_true h1];have:i.toNat<rows.length:=by omega
    simp only[z9e this,Bool.and_self,cond_true,b9d];cases(E.und e).isSome<;>rfl
   ·rw[decide_eq_false h1];rw[List.getElem?_eq_none (by omega)];simp
  ·simp[h0,b6l]
def e0z(E:Env)(e:Option TypeId)(ok:Bool)(r:Option (Nat×List (List AV)))(b j:Nat):Option AV:=match e,r with
 |some e,some r=>bif isT E e&&ok&&decide (r.1=E.sz e)then some (.ptr b j 0)else none
 |_,_=>none
attribute [go_sem] e0z Int.toNat_natCast
@[go_sem] theorem d3u{b o n:Nat}{cp:Option Nat}{i:Int}:a1o E h t (.slice b o n cp) (.int k i)=match slT E t with|some e=>e0z E (some e) (inR i n) (b1s (h b)) b (o+i.toNat)|none=>a1o E h t (.slice b o n cp) (.int k i):=by
 cases hs:slT E t with
 |none=>rfl
 |some e=>
  have hu:=a4c.1 hs;simp only[a1o,hu,b2d,e0z,isT];cases hb:h b with
  |none=>cases inR i n<;>simp[b1s]
  |some o=>cases o<;>cases inR i n<;>simp[b1s,b9d];cases(E.und e).isSome<;>simp
def c9y(E:Env)(t:TypeId):Option (Nat×TypeId):=match E.und t with|some (.array m e)=>some (m,e)|_=>none
theorem c8g{m:Nat}{e:TypeId}:c9y E t=some (m,e)→E.und t=some (.array m e):=by
 unfold c9y;intro h;split at h
 ·rename_i heq;cases h;exact heq
 ·cases h
def c17(E:Env)(n:Nat)(e:TypeId)(p:AV)(j:Int):Option AV:=
 bif inR j n&&isT E e then match p with
  |.ptr b i o=>some (.ptr b i (o+j.toNat*E.sz e))
  |.iptr cs=>some (.iptr (cs.drop (j.toNat*E.sz e)))
  |_=>none
 else none
@[go_sem] theorem d3t(n:Nat)(e:TypeId)(b i o:Nat)(j:Int):c17 E n e (.ptr b i o) j=bif inR j n&&isT E e then some (.ptr b i (o+j.toNat*E.sz e))else none:=by rfl
theorem c7z{n:Nat}{e:TypeId}{p:AV}{j:Int}(hu:c9y E t=some (n,e)):a1o E h t p (.int k j)=c17 E n e p j:=by
 simp only[a1o,c8g hu,b2d,c17,isT];cases inR j n with
 |false=>rfl
 |true=>simp only[cond_true,Bool.true_and];cases(E.und e).isSome<;>cases p<;>rfl
@[go_sem] theorem d8w{b i o:Nat}{j:Int}:a1o E h t (.ptr b i o) (.int k j)=match c9y E t with|some (n,e)=>c17 E n e (.ptr b i o) j|none=>a1o E h t (.ptr b i o) (.int k j):=by
 cases hu:c9y E t with
 |none=>rfl
 |some x=>exact c7z hu
@[go_sem] theorem e4j(n:Nat):inR 0 n=decide (0<n):=b3c 0 n
@[go_sem] theorem e01:Int.toNat 0=0:=by rfl
@[go_sem] theorem e4i(n:Nat):inR 1 n=decide (1<n):=b3c 1 n
@[go_sem] theorem e00:Int.toNat 1=1:=by rfl
@[go_sem] theorem e4h(n:Nat):inR 2 n=decide (2<n):=b3c 2 n
@[go_sem] theorem d9z:Int.toNat 2=2:=by rfl
@[go_sem] theorem e4g(n:Nat):inR 3 n=decide (3<n):=b3c 3 n
@[go_sem] theorem d9y:Int.toNat 3=3:=by rfl
@[go_sem] theorem e4f(n:Nat):inR 4 n=decide (4<n):=b3c 4 n
@[go_sem] theorem d9x:Int.toNat 4=4:=by rfl
@[go_sem] theorem d49{s:List UInt8}{i:Int}(hs:d39 E t=true):b60 E t (.str s) (.int k i)=bif inR i s.length then(s[i.toNat]?).map (λb=>.int .u8 b.toNat)else none:=by
 simp only[b60,b6d hs,b2d];cases inR i s.length with
 |false=>rfl
 |true=>simp only[cond_true];cases s[i.toNat]?<;>rfl
@[go_sem] theorem d47{cs:List AV}:a77 E h t (.iptr cs)=a2p E t (cs.take (E.sz t)):=by rfl
@[go_sem] theorem d7l{b i o:Nat}:a77 E h t (.ptr b i o)=a17 (b1s (h b)) λkr=>a17 (kr.2[i]?) λr=>a2p E t ((r.drop o).take (E.sz t)):=by
 unfold a77;cases hb:h b with
 |none=>simp only[hb];rfl
 |some ob=>cases ob<;>simp only[hb,b1s,a17];rename_i rows;cases rows[i]?<;>rfl
@[go_sem] theorem d41{b i o:Nat}{x:AV}:a7c E h t (.ptr b i o) x=a17 (b1s (h b)) λkr=>a17 (kr.2[i]?) λr=>
 bif decide (x.cells.length=E.sz t)&&isT E t&&Nat.ble (o+x.cells.length) r.length&&x.cells.all AV.storable then some (.set b (.row kr.1 (kr.2.set i (splice r o x.cells))))else none:=by
 unfold a7c;cases hb:h b with
 |none=>simp only[hb];rfl
 |some ob=>cases ob<;>simp only[hb,b1s,a17];rename_i rows;cases rows[i]?<;>simp only[isT,b9d]
@[go_sem] theorem e3n{n:Nat}:d2q E n t=a17 (E.zero t) λz=>bif decide (0<z.length)then some (.ptr n 0 0,.new (bif Nat.beq t E.bT then .trow t true z.length [z]else .row z.length [z]))else none:=by
 unfold d2q;cases E.zero t with
 |none=>rfl
 |some z=>simp only[a17];cases z<;>rfl
@[go_sem] theorem e3o{n:Nat}{x:AV}:d2z n x=bif !x.isJunk&&decide (0<x.cells.length)then some (.ptr n 0 0,.new (.row x.cells.length [x.cells]))else none:=by
 have e:Nat.blt 0 x.cells.length=decide (0<x.cells.length):=by rw[Bool.eq_iff_iff];simp[Nat.blt_eq]
 cases x<;>simp only[d2z,e,AV.isJunk,Bool.not_false,Bool.true_and,Bool.not_true,Bool.false_and,cond_false]
theorem c64(a b:Nat):Nat.ble a b=decide (a≤b):=by rw[Bool.eq_iff_iff];simp[Nat.ble_eq]
theorem c63(a b:Nat):Nat.blt a b=decide (a<b):=by rw[Bool.eq_iff_iff];simp[Nat.blt_eq]
attribute [go_sem] c64 c63
@[go_sem] theorem d84(r:List AV)(o:Nat)(cs:List AV):splice r o cs=r.take o++cs++r.drop (o+cs.length):=by rfl
def d8n(E:Env)(e:TypeId)(l c:Int):Bool:=decide (0≤l)&&decide (l≤c)&&decide (c≤281474976710656)&&decide ((E.bytes e:Int)*c≤281474976710656)
@[go_sem] theorem d01{n:Nat}{k':IntKind}{l c:Int}:a3z E n t (.int k l) (.int k' c)=a17 (slT E t) λe=>a17 (E.zero e) λz=>bif d8n E e l c&&decide (0<z.length)then
 some (AV.slice n 0 l.toNat (some c.toNat),Eff.new (.row z.length (List.replicate c.toNat z)))else none:=by
 cases hs:slT E t with
 |none=>
  unfold a3z;unfold slT at hs;cases hu:E.und t with
  |none=>rfl
  |some d=>cases d<;>first|rfl|(rw[hu]at hs;cases hs)
 |some e=>have hu:=a4c.1 hs;simp only[a3z,hu,a17,d8n,c63];cases E.zero e<;>rfl
@[go_sem] theorem c8t{n m:Nat}{ps:List (Nat×AV)}:a3e E n t m ps=a17 (slT E t) λe=>a17 (E.zero e) λz=>bif decide (0<z.length)&&decide (m*z.length≤16777216)then
 a17 (b49 z.length (List.replicate m z) ps) λrows=>some (AV.slice n 0 m (some m),Eff.new (.row z.length rows))else none:=by
 cases hs:slT E t with
 |none=>
  unfold a3e;unfold slT at hs;cases hu:E.und t with
  |none=>rfl
  |some d=>cases d<;>first|rfl|(rw[hu]at hs;cases hs)
 |some e=>
  have hu:=a4c.1 hs;simp only[a3e,hu,a17];cases E.zero e with
  |none=>rfl
  |some z=>
   simp only[c63,c64];cases decide (0<z.length)&&decide (m*z.length≤16777216)with
   |false=>rfl
   |true=>simp only[cond_true];cases b49 z.length (List.replicate m z) ps<;>rfl
@[go_sem] theorem d7g(m:Nat)(rows:List (List AV)):b49 m rows []=some rows:=by rfl
@[go_sem] theorem d45(m:Nat)(rows:List (List AV))(i:Nat)(v:AV)(r:List (Nat×AV)):b49 m rows ((i,v)::r)=bif !v.isJunk&&decide (v.cells.length=m)&&decide (i<rows.length)then b49 m (rows.set i v.cells) r else none:=by simp only[b49,b9d,c63]
@[go_sem] theorem d7m(pl:Nat→Option (Nat×Nat))(cs:List AV):b18 pl cs []=some cs:=by rfl
@[go_sem] theorem d4a(pl:Nat→Option (Nat×Nat))(cs:List AV)(i:Nat)(v:AV)(r:List (Nat×AV)):b18 pl cs ((i,v)::r)=a17 (pl i) λx=>bif !v.isJunk&&decide (v.cells.length=x.2)&&decide (x.1+x.2≤cs.length)then b18 pl (splice cs x.1 v.cells) r else none:=by
 simp only[b18];cases pl i with
 |none=>rfl
 |some x=>simp only[a17,b9d,c64]
@[go_sem] theorem d70{H:a08}:a92 H .none=H:=by rfl
@[go_sem] theorem d94{H:a08}{o:AObj}:a92 H (.new o)=H++[some o]:=by rfl
@[go_sem] theorem d93{H:a08}{b:Nat}{o:AObj}:a92 H (.set b o)=H.set b (some o):=by rfl
@[go_sem] theorem d71{H:a08}{b:Nat}{o:AObj}:a92 H (.kill b o)=H.set b none++[some o]:=by rfl
@[go_sem] theorem d92{n:Nat}{o:AObj}:Eff.fits n (.new o)=true:=by rfl
@[go_sem] theorem d6r{n:Nat}:Eff.fits n .none=true:=by rfl
@[go_sem] theorem d91{n b:Nat}{o:AObj}:Eff.fits n (.set b o)=decide (b<n):=c63 b n
@[go_sem] theorem d6s{n b:Nat}{o:AObj}:Eff.fits n (.kill b o)=decide (b<n):=c63 b n
attribute [go_sem] List.all_cons List.all_nil List.set_cons_zero List.set_cons_succ List.set_nil List.replicate_zero
end
@[go_sem] theorem d7b(k:IntKind)(n:Int):AV.cells (.int k n)=[(AV.int k n)]:=by rfl
@[go_sem] theorem c91(k:IntKind)(n:Int):AV.storable (.int k n)=true:=by rfl
@[go_sem] theorem d8s(k:IntKind)(n:Int):AV.isJunk (.int k n)=false:=by rfl
@[go_sem] theorem d38(k:IntKind)(n:Int):a12 (.int k n)=[]:=by rfl
@[go_sem] theorem b3x(s:List UInt8):AV.cells (.str s)=[(AV.str s)]:=by rfl
@[go_sem] theorem c90(s:List UInt8):AV.storable (.str s)=true:=by rfl
@[go_sem] theorem d8r(s:List UInt8):AV.isJunk (.str s)=false:=by rfl
@[go_sem] theorem d35(s:List UInt8):a12 (.str s)=[]:=by rfl
@[go_sem] theorem c6y:AV.cells .nilslice=[AV.nilslice]:=by rfl
@[go_sem] theorem c1z:AV.storable .nilslice=true:=by rfl
@[go_sem] theorem c7x:AV.isJunk .nilslice=false:=by rfl
@[go_sem] theorem c3v:a12 .nilslice=[]:=by rfl
@[go_sem] theorem d36(b i o:Nat):a12 (.ptr b i o)=[b]:=by rfl
@[go_sem] theorem d0a(l:List AV):a12 (.iptr l)=[]:=by rfl
@[go_sem] theorem d2d(b o n:Nat)(c:Option Nat):AV.cells (.slice b o n c)=[(AV.slice b o n c)]:=by rfl
@[go_sem] theorem c6v(b o n:Nat)(c:Option Nat):AV.storable (.slice b o n c)=true:=by rfl
@[go_sem] theorem d3r(b o n:Nat)(c:Option Nat):AV.isJunk (.slice b o n c)=false:=by rfl
@[go_sem] theorem c8x(b o n:Nat)(c:Option Nat):a12 (.slice b o n c)=[b]:=by rfl
@[go_sem] theorem d37(b:Nat):a12 (.map b)=[b]:=by rfl
@[go_sem] theorem d7c(l:List AV):AV.cells (.agg l)=l:=by rfl
@[go_sem] theorem d8t(l:List AV):AV.isJunk (.agg l)=false:=by rfl
@[go_sem] theorem d5y(n:Nat):Eff.keys n .none=[]:=by rfl
@[go_sem] theorem d8q(n:Nat)(o:AObj):Eff.keys n (.new o)=[n]:=by rfl
@[go_sem] theorem d8p(n b:Nat)(o:AObj):Eff.keys n (.set b o)=[b]:=by rfl
@[go_sem] theorem d5z(n b:Nat)(o:AObj):Eff.keys n (.kill b o)=[b,n]:=by rfl
@[go_sem] theorem e4c:1+1=2:=by rfl
@[go_sem] theorem e4b:2+1=3:=by rfl
@[go_sem] theorem e4a:3+1=4:=by rfl
@[go_sem] theorem e49:4+1=5:=by rfl
@[go_sem] theorem e48:5+1=6:=by rfl
@[go_sem] theorem e47:6+1=7:=by rfl
@[go_sem] theorem e46:7+1=8:=by rfl
@[go_sem] theorem e45:8+1=9:=by rfl
@[go_sem] theorem e44:9+1=10:=by rfl
@[go_sem] theorem e2x:10+1=11:=by rfl
@[go_sem] theorem e2w:11+1=12:=by rfl
@[go_sem] theorem e2v:12+1=13:=by rfl
@[go_sem] theorem e2u:13+1=14:=by rfl
@[go_sem] theorem e2t:14+1=15:=by rfl
@[go_sem] theorem e2s:15+1=16:=by rfl
@[go_sem] theorem e2r:16+1=17:=by rfl
@[go_sem] theorem e2q:17+1=18:=by rfl
@[go_sem] theorem e2p:18+1=19:=by rfl
@[go_sem] theorem e2o:19+1=20:=by rfl
@[go_sem] theorem e2n:20+1=21:=by rfl
@[go_sem] theorem e2m:21+1=22:=by rfl
@[go_sem] theorem e2l:22+1=23:=by rfl
@[go_sem] theorem e2k:23+1=24:=by rfl
@[go_sem] theorem e2j:24+1=25:=by rfl
@[go_sem] theorem e2i:25+1=26:=by rfl
@[go_sem] theorem e2h:26+1=27:=by rfl
@[go_sem] theorem e2g:27+1=28:=by rfl
@[go_sem] theorem e2f:28+1=29:=by rfl
@[go_sem] theorem e2e:29+1=30:=by rfl
@[go_sem] theorem e2d:2+5=7:=by rfl
@[go_sem] theorem e2c:3+2=5:=by rfl
@[go_sem] theorem e2b:3+3=6:=by rfl
@[go_sem] theorem e2a:3+4=7:=by rfl
@[go_sem] theorem d8b{α:Type}(a:α):List.replicate 1 a=[a]:=by rfl
@[go_sem] theorem d8a{α:Type}(a:α):List.replicate 2 a=[a,a]:=by rfl
@[go_sem] theorem d89{α:Type}(a:α):List.replicate 3 a=[a,a,a]:=by rfl
@[go_sem] theorem d88{α:Type}(a:α):List.replicate 4 a=[a,a,a,a]:=by rfl
@[go_sem] theorem d87{α:Type}(a:α):List.replicate 5 a=[a,a,a,a,a]:=by rfl
attribute [go_sem] List.map_cons List.map_nil List.append_nil List.nil_append List.cons_append List.length_cons List.length_nil a2l cond_true cond_false Option.map_some Option.map_none List.drop_zero List.drop_succ_cons List.take_succ_cons List.take_zero List.drop_nil List.take_nil List.getElem?_cons_zero List.getElem?_cons_succ List.getElem?_nil Nat.zero_add Nat.add_zero Nat.zero_mul Nat.mul_one decide_true decide_false Bool.and_true Bool.true_and Bool.and_false Bool.false_and Bool.or_true Bool.true_or Bool.or_false Bool.false_or Bool.not_true Bool.not_false Option.bind_some Option.isSome_some a30 decide_eq_true_eq
end Go.Ax
/- AxFlat: values that refer to no mutable block: renaming and freezing leave them; calls on them. -/
namespace Go.Ax
mutual
theorem a8a(π:Nat→Option Nat):∀(v:AV),a6k v=[]→ren π v=v
 |.ptr ..,h=>by simp[a6k]at h
 |.slice ..,h=>by simp[a6k]at h
 |.map ..,h=>by simp[a6k]at h
 |.yfn ..,h=>by simp[a6k]at h
 |.func fn fs cs,h=>by simp only[a6k,List.append_eq_nil_iff]at h;simp only[ren,a6b π fs h.1,a6b π cs h.2]
 |.iface t x,h=>by simp only[a6k]at h;simp only[ren,a8a π x h]
 |.agg cs,h=>by simp only[a6k]at h;simp only[ren,a6b π cs h]
 |.tuple cs,h=>by simp only[a6k]at h;simp only[ren,a6b π cs h]
 |.junk,_|.bool _,_|.int ..,_|.str _,_|.nilptr,_|.nilslice,_|.nilmap,_|.nilfunc,_|.nilifc,_|.iptr _,_|.islice ..,_|.imap ..,_|.iset _,_=>rfl
theorem a6b(π:Nat→Option Nat):∀(l:List AV),a0w l=[]→b9b π l=l
 | [],_=>rfl
 |v::vs,h=>by simp only[a0w,List.append_eq_nil_iff]at h;simp only[b9b,a8a π v h.1,a6b π vs h.2]
end
theorem a6a(π:Nat→Option Nat){l:List AV}(h:a0w l=[]):l.map (ren π)=l:=by rw[←a7m];exact a6b π l h
mutual
theorem b8m(m:Nat)(top:Bool)(d:AV→Option AV):∀(v:AV),a6k v=[]→a4w m top d v=some v
 |.ptr ..,h=>by simp[a6k]at h
 |.slice ..,h=>by simp[a6k]at h
 |.map ..,h=>by simp[a6k]at h
 |.yfn ..,h=>by simp[a6k]at h
 |.func fn fs cs,h=>by simp only[a6k,List.append_eq_nil_iff]at h;simp only[a4w,a6f m top d fs h.1,a6f m top d cs h.2]
 |.iface t x,h=>by simp only[a6k]at h;simp only[a4w,b8m m top d x h]
 |.agg cs,h=>by simp only[a6k]at h;simp only[a4w,a6f m top d cs h]
 |.tuple cs,h=>by simp only[a6k]at h;simp only[a4w,a6f m top d cs h]
 |.junk,_|.bool _,_|.int ..,_|.str _,_|.nilptr,_|.nilslice,_|.nilmap,_|.nilfunc,_|.nilifc,_|.iptr _,_|.islice ..,_|.imap ..,_|.iset _,_=>rfl
theorem a6f(m:Nat)(top:Bool)(d:AV→Option AV):∀(l:List AV),a0w l=[]→a7d m top d l=some l
 | [],_=>rfl
 |v::vs,h=>by simp only[a0w,List.append_eq_nil_iff]at h;simp only[a7d,b8m m top d v h.1,a6f m top d vs h.2]
end
def FlatR(rows:List (List AV)):Prop:=∀r∈rows,a0w r=[]
theorem FlatR.append{a b:List (List AV)}(h:FlatR a)(k:FlatR b):FlatR (a++b):=by intro x hx;simp only[List.mem_append]at hx;exact hx.elim (h x) (k x)
theorem FlatR.map{α:Type}{f:α→List AV}{l:List α}(h:∀x,a0w (f x)=[]):FlatR (l.map f):=by intro x hx;simp only[List.mem_map]at hx;obtain⟨y,_,rfl⟩:=hx;exact h y
theorem FlatR.replicate{n:Nat}{r:List AV}(h:a0w r=[]):FlatR (List.replicate n r):=by intro x hx;rw[(List.mem_replicate.1 hx).2];exact h
theorem FlatR.drop{rows:List (List AV)}{i:Nat}(h:FlatR rows):FlatR (rows.drop i):=λx hx=>h x (List.mem_of_mem_drop hx)
theorem FlatR.take{rows:List (List AV)}{i:Nat}(h:FlatR rows):FlatR (rows.take i):=λx hx=>h x (List.mem_of_mem_take hx)
theorem a01{rows:List (List AV)}(h:FlatR rows):rows.flatMap a0w=[]:=by rw[List.flatMap_eq_nil_iff];exact h
theorem a02(π:Nat→Option Nat){rows:List (List AV)}(h:FlatR rows):rows.map (λr=>r.map (ren π))=rows:=by
 conv=>rhs;rw[←List.map_id rows]
 exact List.map_congr_left λr hr=>a6a π (h r hr)
theorem a15(m:Nat)(d:AV→Option AV):∀{rows:List (List AV)},FlatR rows→c3b m d rows=some rows
 | [],_=>rfl
 |r::rs,h=>by simp only[c3b,a6f m false d r (h r (by simp)),a15 m d (rows:=rs) (λx hx=>h x (by simp[hx]))]
/-! ### slices that are immutable, nil or not -/
def sl(c:Option (Option Nat))(rows:List (List AV)):AV:=match c,rows with
 |none,[]=>.nilslice
 |none,r::rs=>.islice (r::rs) none
 |some c,rows=>.islice rows c
@[go_sem] theorem b9m(c:Option Nat)(rows:List (List AV)):sl (some c) rows = .islice rows c:=by cases rows<;>rfl
@[go_sem] theorem a0y:sl none [] = .nilslice:=by rfl
theorem a1n{rows:List (List AV)}(h:rows≠[]):sl none rows = .islice rows none:=by cases rows with|nil=>exact absurd rfl h|cons=>rfl
@[go_sem] theorem d0x(c:Option (Option Nat))(rows:List (List AV)):a6k (sl c rows)=[]:=by cases c<;>cases rows<;>rfl
@[go_sem] theorem e1r(π:Nat→Option Nat)(c:Option (Option Nat))(rows:List (List AV)):ren π (sl c rows)=sl c rows:=a8a π _ (d0x c rows)
@[go_sem] theorem d4p(c:Option (Option Nat))(rows:List (List AV)):a12 (sl c rows)=[]:=by cases c<;>cases rows<;>rfl
@[go_sem] theorem d0d(c:Option (Option Nat))(rows:List (List AV)):(sl c rows).storable=true:=by cases c<;>cases rows<;>rfl
section
variable {E:Env}{h:FHeap}{t e:TypeId}{c:Option (Option Nat)}{rows:List (List AV)}{k:IntKind}
@[go_sem] theorem e1j(hs:(slT E t).isSome=true):b9e E h t (sl c rows)=some (.int .i64 rows.length):=by obtain⟨e,he⟩:=Option.isSome_iff_exists.1 hs;have ht:=a4c.1 he;cases c<;>cases rows<;>simp[sl,b9e,ht]
@[go_sem] theorem e10{i:Int}:a1o E h t (sl c rows) (.int k i)=match slT E t with|some e=>d6a E (some e) (b6l rows i)|none=>a1o E h t (sl c rows) (.int k i):=by
 cases c with
 |some c=>rw[b9m];exact b3e
 |none=>cases rows with
  |nil=>
   cases hs:slT E t with
   |none=>rfl
   |some e=>
    have hu:=a4c.1 hs;simp only[sl,a1o,hu,d6a];cases h2:b6l [] i with
    |none=>simp
    |some r=>unfold b6l at h2;split at h2<;>simp at h2
  |cons a l=>exact b3e
end
/-! ### calls -/
@[go_sem] theorem e1c(a:AV):a3l 0 [a]=[(0,a)]:=by rfl
@[go_sem] theorem e1b(a b:AV):a3l 0 [a,b]=[(0,a),(1,b)]:=by rfl
@[go_sem] theorem e1a(a b c:AV):a3l 0 [a,b,c]=[(0,a),(1,b),(2,c)]:=by rfl
@[go_sem] theorem e19(a b c d:AV):a3l 0 [a,b,c,d]=[(0,a),(1,b),(2,c),(3,d)]:=by rfl
theorem a8r(n:Nat)(H1:a08):∀(b:Nat) (H:a08),a0s [] n H1 b H=H
 |_,[]=>rfl
 |b,o::r=>by simp only[a0s,List.idxOf?_nil,a8r n H1 (b+1) r]
theorem b8u{run:List AV→a08→Option (AV×a08)}{args:List AV}{H:a08}{v:AV}(ha:a0w args=[])(h:run args []=some (v,[]))(hv:a6k v=[]):a2s run args H=some (v,H,[]):=by
 unfold a2s;have hr:a0h H a3a (a0w args) []=[]:=by rw[ha];rfl
 simp only[hr,a2a,List.all_nil,Bool.and_self,cond_true,a6a _ ha,a0u,List.map_nil,h,a8a _ v hv,a8r,List.drop_nil,List.append_nil,List.length_nil]
theorem a0l{E:Env}{draw:Bool}{call:CallF}{g:FuncId}{fs cs ar args:List AV}{H:a08}{v:AV}(hx:E.ext g=false)(hf:(E.fn g).isSome=true)(he:fs++ar++cs=args)(ha:a0w args=[])(h:call g args []=some (v,[]))(hv:a6k v=[]) :
 a0j E draw call (.func (.func g) fs cs) ar H=some (v,H,[]):=by
 simp only[a0j,hx,hf,he,cond_true,cond_false,b8u ha h hv];cases draw
 ·rfl
 ·simp only[Bool.true_and];rw[show Nat.ble H.length H.length=true by rw[Nat.ble_eq];exact Nat.le_refl _];rfl
@[go_sem] theorem d8g(k:IntKind)(n:Int):a6k (.int k n)=[]:=by rfl
@[go_sem] theorem d5g(b:Bool):a6k (.bool b)=[]:=by rfl
@[go_sem] theorem d8e(s:List UInt8):a6k (.str s)=[]:=by rfl
@[go_sem] theorem c7k:a6k .nilslice=[]:=by rfl
@[go_sem] theorem d0y:a6k .nilptr=[]:=by rfl
@[go_sem] theorem d8h(l:List AV):a6k (.agg l)=a0w l:=by rfl
@[go_sem] theorem d3j(l:List AV):a6k (.tuple l)=a0w l:=by rfl
@[go_sem] theorem d5f(f:Fn)(a b:List AV):a6k (.func f a b)=a0w a++a0w b:=by rfl
@[go_sem] theorem d8f(b i o:Nat):a6k (.ptr b i o)=[b]:=by rfl
@[go_sem] theorem d3k(b i o:Nat)(c:Option Nat):a6k (.slice b i o c)=[b]:=by rfl
@[go_sem] theorem d5j:a0w []=[]:=by rfl
@[go_sem] theorem d3l(v:AV)(l:List AV):a0w (v::l)=a6k v++a0w l:=by rfl
/-! ### what a loop's head keeps -/
/-! ### globals -/
end Go.Ax
/- AxBits: words of 64 bits; sums that fit. -/
namespace Go.Ax
def u64(x:BitVec 64):AV:=.int .u64 (x.toNat:Int)
section
variable {E:Env}{t:TypeId}{c:Bool}{x y:BitVec 64}{k:IntKind}
def c7y(E:Env)(t:TypeId):Option IntKind:=match E.und t with|some (.int k)=>some k|_=>none
theorem c15{k:IntKind}:c7y E t=some k→E.und t=some (.int k):=by
 unfold c7y;intro h;split at h
 ·rename_i heq;cases h;exact heq
 ·cases h
def cvI(k:IntKind)(n:Int):AV:=.int k (k.wrap n)
@[go_sem] theorem e1f(n:Int):cvI .i64 n = .int .i64 (IntKind.i64.wrap n):=by rfl
@[go_sem] theorem e3j(n:Int):cvI .u8 n = .int .u8 (IntKind.u8.wrap n):=by rfl
@[go_sem] theorem d96{h:FHeap}{s d:TypeId}{k:IntKind}{n:Int}(hs:isT E s=true):a8k E h s d (.int k n)=match c7y E d with|some k'=>some (cvI k' n)|none=>a8k E h s d (.int k n):=by
 cases hd:c7y E d with
 |none=>rfl
 |some k'=>have hu:=c15 hd;obtain⟨ds,hds⟩:=Option.isSome_iff_exists.1 (show(E.und s).isSome=true from hs);simp only[a8k,hu,hds];cases ds<;>simp[c8s,hu,hds,cvI]
theorem w64{n:Int}(h1:-9223372036854775808≤n)(h2:n≤9223372036854775807):IntKind.i64.wrap n=n:=IntWalk.i64_in n ⟨h1,h2⟩
end
end Go.Ax
/- AxWp: what a statement comes to, by a condition on the end. -/
namespace Go.Ax
@[go_sem] theorem d60(F:Frm):a5w [] F=[]:=by rfl
@[go_sem] theorem d3q(s:Nat)(r:List Nat)(F:Frm):a5w (s::r) F=(s,a2k F s)::a5w r F:=by rfl
@[go_sem] theorem d5r(v:AV):a7q [v]=v:=by rfl
@[go_sem] theorem d5q(v w:AV)(l:List AV):a7q (v::w::l) = .tuple (v::w::l):=by rfl
@[go_sem] theorem d9c{E:Env}{F:Frm}{H:a08}:a1m E F H []=some []:=by rfl
@[go_sem] theorem d9b{E:Env}{F:Frm}{H:a08}(t:Nat)(r:List ResultVar):a1m E F H (.tmp t::r)=a17 (a1m E F H r) λvs=>some (a2k F t::vs):=by simp only[a1m];cases a1m E F H r<;>rfl
@[go_sem] theorem d7i{E:Env}{F:Frm}{H:a08}(a t:Nat)(r:List ResultVar):a1m E F H (.cell a t::r)=a17 (a77 E (a04 H) t (a2k F a)) λv=>a17 (a1m E F H r) λvs=>some (v::vs):=by simp only[a1m];cases a77 E (a04 H) t (a2k F a)<;>cases a1m E F H r<;>rfl
abbrev b4t:=AExit→Frm→a08→Prop
def bk(id:Nat)(Q:b4t):b4t:=λe F H=>match e with|.exit i=>if i=id then Q .normal F H else Q (.exit i) F H|e=>Q e F H
def WpR:Code→Cx→Frm→a08→b4t→Prop
 |.skip,_,F,H,Q=>Q .normal F H
 |.label _,_,F,H,Q=>Q .normal F H
 |.exit id,_,F,H,Q=>Q (.exit id) F H
 |.ret,_,F,H,Q=>Q .ret F H
 |.seq a b,x,F,H,Q=>WpR a x F H λe F H=>match e with|.normal=>WpR b x F H Q|e=>Q e F H
 |.block id b,x,F,H,Q=>WpR b { x with cur:=id } F H (bk id Q)
 |.scope b,x,F,H,Q=>WpR b x F H Q
 |c,x,F,H,Q=>∃e F' H',Ev x c F H (e,F',H')∧Q e F' H'
def Wp(x:Cx)(c:Code)(F:Frm)(H:a08)(Q:b4t):Prop:=WpR c x F H Q
def sq(x:Cx)(b:Code)(Q:b4t):b4t:=λe F H=>match e with|.normal=>Wp x b F H Q|e=>Q e F H
def cx(E:Env)(M:List Fact)(m N:Nat)(g:FuncId)(cur:Nat):Cx:=⟨E,M,m,N,E.keep g,cur⟩
def lp{σ:Type}(m:Nat)(keep:List Nat)(Fs:σ→Frm)(Hs:σ→a08)(meas:σ→Nat)(Inv:σ→Prop)(n:Nat)(Q:b4t):b4t:=λe F H=>match e with|.normal=>∃s,gcD m keep F H=some (Fs s,Hs s)∧meas s<n∧Inv s|e=>Q e F H
def fq(E:Env)(g:FuncId)(m:Nat)(results:List ResultVar)(r:AV×a08):b4t:=λe F H=>match e with|.exit _=>False|_=>∃vs,a1m E F H results=some vs∧a5s (E.thaw g) m (a7q vs) H=some r
def lpJ(m:Nat)(keep:List Nat)(J:Nat→Frm→a08→Prop)(n:Nat)(Q:b4t):b4t:=λe F H=>match e with|.normal=>∃F1 H1 n',gcD m keep F H=some (F1,H1)∧n'<n∧J n' F1 H1|e=>Q e F H
@[irreducible] def c9f:AV→Option Bool|.bool b=>some b|_=>none
@[go_sem] theorem e2y:c9f (.bool true)=some true:=by unfold c9f;rfl
@[go_sem] theorem e2z:c9f (.bool false)=some false:=by unfold c9f;rfl
theorem d1e{v:AV}{t:Bool}(h:c9f v=some t):v = .bool t:=by
 unfold c9f at h;split at h
 ·cases h;rfl
 ·cases h
def hs(E:Env)(M:List Fact)(N:Nat):Code→Frm→a08→Frm→a08→List LogE→Bool→Prop
 |.region id ops draw,F,H,F1,H1,log,t=>(a8h E draw N (sem E M) ops.toList ops.toList [] F H,true)=(some (F1,H1,log),t)
 |.cond c a b,F,H,F1,H1,log,t=>(c9f (opv E F c),F,H,[])=(some t,F1,H1,log)
 |_,_,_,_,_,_,_=>False
def sd:Code→List LogE→Bool
 |.region id ops draw,log=>!draw||logOk ops.toList log.length log
 |_,_=>true
def ct(x:Cx):Code→Bool→Frm→a08→b4t→Prop
 |.region id ops draw,t,F,H,Q=>Q .normal F H
 |.cond c a b,t,F,H,Q=>Wp x (bif t then a else b) F H Q
 |_,_,_,_,_=>False
@[go_sem] theorem e5x(E:Env)(M:List Fact)(N:Nat)(id ops draw F H F1 H1 log t):hs E M N (.region id ops draw) F H F1 H1 log t=((a8h E draw N (sem E M) ops.toList ops.toList [] F H,true)=(some (F1,H1,log),t)):=by rfl
@[go_sem] theorem e5y(E:Env)(M:List Fact)(N:Nat)(c a b F H F1 H1 log t):hs E M N (.cond c a b) F H F1 H1 log t=((c9f (opv E F c),F,H,[])=(some t,F1,H1,log)):=by rfl
theorem wx:(∀x id ops draw t F H Q,ct x (.region id ops draw) t F H Q=Q .normal F H)∧(∀x c a b F H Q,ct x (.cond c a b) true F H Q=Wp x a F H Q)∧(∀x c a b F H Q,ct x (.cond c a b) false F H Q=Wp x b F H Q):=⟨λ_ _ _ _ _ _ _ _=>rfl,λ_ _ _ _ _ _ _=>rfl,λ_ _ _ _ _ _ _=>rfl⟩
theorem ww:(∀x F H Q,Wp x .skip F H Q=Q .normal F H)∧(∀x F H Q l,Wp x (.label l) F H Q=Q .normal F H)∧(∀x F H Q i,Wp x (.exit i) F H Q=Q (.exit i) F H)∧(∀x F H Q,Wp x .ret F H Q=Q .ret F H)∧
 (∀x a b F H Q,Wp x (.seq a b) F H Q=Wp x a F H (sq x b Q))∧(∀E M m N g cur i b F H Q,Wp (cx E M m N g cur) (.block i b) F H Q=Wp (cx E M m N g i) b F H (bk i Q))∧(∀x b F H Q,Wp x (.scope b) F H Q=Wp x b F H Q)∧
 (∀x b F H Q,sq x b Q .normal F H=Wp x b F H Q)∧(∀x b F H Q i,sq x b Q (.exit i) F H=Q (.exit i) F H)∧(∀x b F H Q,sq x b Q .ret F H=Q .ret F H)∧
 (∀i F H Q,bk i Q .normal F H=Q .normal F H)∧(∀i F H Q,bk i Q .ret F H=Q .ret F H)∧(∀i F H Q,bk i Q (.exit i) F H=Q .normal F H)∧(∀i j F H Q,(j=i)=False→bk i Q (.exit j) F H=Q (.exit j) F H)∧
 (∀m keep J n Q i F H,lpJ m keep J n Q (.exit i) F H=Q (.exit i) F H)∧(∀m keep J n Q F H,lpJ m keep J n Q .ret F H=Q .ret F H)∧
 (∀(σ:Type) m keep (Fs:σ→Frm) Hs meas Inv n Q i F H,lp m keep Fs Hs meas Inv n Q (.exit i) F H=Q (.exit i) F H)∧(∀(σ:Type) m keep (Fs:σ→Frm) Hs meas Inv n Q F H,lp m keep Fs Hs meas Inv n Q .ret F H=Q .ret F H)∧
 (∀a b:Code,cond true a b=a)∧(∀a b:Code,cond false a b=b)∧
 (∀x id ops draw t F H Q,ct x (.region id ops draw) t F H Q=Q .normal F H)∧(∀x c a b F H Q,ct x (.cond c a b) true F H Q=Wp x a F H Q)∧(∀x c a b F H Q,ct x (.cond c a b) false F H Q=Wp x b F H Q):=
 ⟨λ_ _ _ _=>rfl,λ_ _ _ _ _=>rfl,λ_ _ _ _ _=>rfl,λ_ _ _ _=>rfl,λ_ _ _ _ _ _=>rfl,λ_ _ _ _ _ _ _ _ _ _ _=>rfl,λ_ _ _ _ _=>rfl,λ_ _ _ _ _=>rfl,λ_ _ _ _ _ _=>rfl,λ_ _ _ _ _=>rfl,
  λ_ _ _ _=>rfl,λ_ _ _ _=>rfl,λi F H Q=>by simp only[bk,if_pos],λi j F H Q h=>by simp only[bk,h,if_false],λ_ _ _ _ _ _ _ _=>rfl,λ_ _ _ _ _ _ _=>rfl,λ_ _ _ _ _ _ _ _ _ _ _ _=>rfl,λ_ _ _ _ _ _ _ _ _ _ _=>rfl,λ_ _=>rfl,λ_ _=>rfl,wx⟩
theorem b7j:∀(c:Code) {x:Cx} {F:Frm} {H:a08} {Q:b4t},Wp x c F H Q→∃e F' H',Ev x c F H (e,F',H')∧Q e F' H':=by
 intro c
 induction c with
 |skip=>intro x F H Q h;exact⟨_,_,_,Ev.skip,h⟩
 |label l=>intro x F H Q h;exact⟨_,_,_,Ev.label,h⟩
 |exit i=>intro x F H Q h;exact⟨_,_,_,Ev.leave,h⟩
 |ret=>intro x F H Q h;exact⟨_,_,_,Ev.ret,h⟩
 |seq a b iha ihb=>
  intro x F H Q h;obtain⟨e,F',H',h1,h2⟩:=iha h;cases e with
  |normal=>obtain⟨e2,F2,H2,h3,h4⟩:=ihb h2;exact⟨e2,F2,H2,Ev.seq h1 h3,h4⟩
  |exit id=>exact⟨_,_,_,Ev.seq_exit h1,h2⟩
  |ret=>exact⟨_,_,_,Ev.seq_ret h1,h2⟩
 |block id b ih=>
  intro x F H Q h;obtain⟨e,F',H',h1,h2⟩:=ih h;cases e with
  |normal=>exact⟨_,_,_,Ev.block h1,h2⟩
  |exit i=>
   by_cases hi:i=id
   ·subst hi;simp only[bk,if_pos]at h2;exact⟨_,_,_,Ev.block_exit h1,h2⟩
   ·simp only[bk,if_neg hi]at h2;exact⟨_,_,_,Ev.block_on h1 (by simpa using hi),h2⟩
  |ret=>exact⟨_,_,_,Ev.block_ret h1,h2⟩
 |scope b ih=>intro x F H Q h;obtain⟨e,F',H',h1,h2⟩:=ih h;exact⟨e,F',H',Ev.scope h1,h2⟩
 |_=>intro x F H Q h;exact h
theorem d06:∀{c:Code} {x:Cx} {F:Frm} {H:a08} {Q Q':b4t},Wp x c F H Q→(∀e F H,Q e F H→Q' e F H)→Wp x c F H Q':=by
 intro c
 induction c with
 |skip=>intro x F H Q Q' h hq;exact hq _ _ _ h
 |label l=>intro x F H Q Q' h hq;exact hq _ _ _ h
 |exit i=>intro x F H Q Q' h hq;exact hq _ _ _ h
 |ret=>intro x F H Q Q' h hq;exact hq _ _ _ h
 |seq a b iha ihb=>
  intro x F H Q Q' h hq;refine iha (Q:=sq x b Q) (Q':=sq x b Q') h ?_;intro e F H h;cases e with
  |normal=>exact ihb (x:=x) h hq
  |exit id=>exact hq _ _ _ h
  |ret=>exact hq _ _ _ h
 |block id b ih=>
  intro x F H Q Q' h hq;refine ih (Q:=bk id Q) (Q':=bk id Q') h ?_;intro e F H h;cases e with
  |normal=>exact hq _ _ _ h
  |exit i=>
   simp only[bk]at h⊢;split
   ·rename_i hi;rw[if_pos hi]at h;exact hq _ _ _ h
   ·rename_i hi;rw[if_neg hi]at h;exact hq _ _ _ h
  |ret=>exact hq _ _ _ h
 |scope b ih=>intro x F H Q Q' h hq;exact ih (x:=x) h hq
 |_=>intro x F H Q Q' h hq;obtain⟨e,F',H',h1,h2⟩:=h;exact⟨e,F',H',h1,hq _ _ _ h2⟩
section
variable {x:Cx}{F F1:Frm}{H H1:a08}{Q:b4t}
theorem xs{E:Env}{M:List Fact}{m N:Nat}{g:FuncId}{cur:Nat}{id ops draw}{log:List LogE}(h:a8h E draw N (sem E M) ops.toList ops.toList [] F H=some (F1,H1,log))(hl:(!draw||logOk ops.toList log.length log)=true)(hq:Q .normal F1 H1):Wp (cx E M m N g cur) (.region id ops draw) F H Q:=⟨_,_,_,Ev.region h hl,hq⟩
theorem xI{E:Env}{M:List Fact}{m N:Nat}{g:FuncId}{cur:Nat}{c a b t}(hc:opv E F c = .bool t)(h:Wp (cx E M m N g cur) (bif t then a else b) F H Q):Wp (cx E M m N g cur) (.cond c a b) F H Q:=by
 cases t
 ·obtain⟨e,F',H',h1,h2⟩:=b7j _ h;exact⟨e,F',H',Ev.cond_f hc h1,h2⟩
 ·obtain⟨e,F',H',h1,h2⟩:=b7j _ h;exact⟨e,F',H',Ev.cond_t hc h1,h2⟩
theorem d4g{E:Env}{M:List Fact}{m N:Nat}{g:FuncId}{cur:Nat}{keep:List Nat}{b:Code}(hk:E.keep g cur=keep)(J:Nat→Frm→a08→Prop)(n0:Nat)(h0:∃F1 H1,gcD m keep F H=some (F1,H1)∧J n0 F1 H1)
 (h:∀n F1 H1,J n F1 H1→Wp (cx E M m N g cur) b F1 H1 (lpJ m keep J n Q)):∃r:AExit×Frm×a08,Q r.1 r.2.1 r.2.2∧EvL (cx E M m N g cur) b F H r:=by
 subst hk;have key:∀n F H F1 H1,gcD m (E.keep g cur) F H=some (F1,H1)→J n F1 H1→∃r:AExit×Frm×a08,Q r.1 r.2.1 r.2.2∧EvL (cx E M m N g cur) b F H r:=by
  intro n
  induction n using Nat.strongRecOn with
  |ind n ih=>
   intro F H F1 H1 hg hJ;obtain⟨e,F',H',h1,h2⟩:=b7j _ (h n F1 H1 hJ);cases e with
   |normal=>obtain⟨F2,H2,n',g1,g2,g3⟩:=h2;obtain⟨r,hr,hl⟩:=ih n' g2 F' H' F2 H2 g1 g3;exact⟨r,hr,EvL.again (x:=cx E M m N g cur) hg h1 hl⟩
   |exit id=>exact⟨(_,_,_),h2,EvL.leave (x:=cx E M m N g cur) hg h1 (λh=>by cases h)⟩
   |ret=>exact⟨(_,_,_),h2,EvL.leave (x:=cx E M m N g cur) hg h1 (λh=>by cases h)⟩
 obtain⟨F1,H1,hg,hJ⟩:=h0;exact key n0 F H F1 H1 hg hJ
theorem c70{E:Env}{M:List Fact}{m N:Nat}{g:FuncId}{cur:Nat}{keep:List Nat}{b:Code}(hk:E.keep g cur=keep)(J:Nat→Frm→a08→Prop)(n0:Nat)(h0:∃F1 H1,gcD m keep F H=some (F1,H1)∧J n0 F1 H1)
 (h:∀n F1 H1,J n F1 H1→Wp (cx E M m N g cur) b F1 H1 (lpJ m keep J n Q))(hz:d3x keep=false:=by rfl)(hx:a9l b=none:=by rfl):Wp (cx E M m N g cur) (.loop b) F H Q:=by
 obtain⟨⟨e,F',H'⟩,hr,hl⟩:=d4g hk J n0 h0 h;exact⟨e,F',H',Ev.loop hx (by rw[←hk]at hz;exact hz) hl,hr⟩
def fz(m:Nat)(Q:b4t):b4t:=λe F H=>Q e (c5l m H F) (c3c m H)
theorem a0p{E:Env}{M:List Fact}{m N:Nat}{g:FuncId}{cur:Nat}{keep:List Nat}{b:Code}(hk:E.keep g cur=keep){σ:Type}(Fs:σ→Frm)(Hs:σ→a08)(meas:σ→Nat)(Inv:σ→Prop)(s0:σ)(h0:gcD m keep F H=some (Fs s0,Hs s0))(hi:Inv s0)
 (h:∀s,Inv s→Wp (cx E M m N g cur) b (Fs s) (Hs s) (lp m keep Fs Hs meas Inv (meas s) Q))(hz:d3x keep=false:=by rfl)(hx:a9l b=none:=by rfl):Wp (cx E M m N g cur) (.loop b) F H Q:=by
 refine c70 hk (λn F1 H1=>∃s,F1=Fs s∧H1=Hs s∧n=meas s∧Inv s) (meas s0) ⟨_,_,h0,s0,rfl,rfl,rfl,hi⟩ ?_ hz hx
 rintro n F1 H1 ⟨s,rfl,rfl,rfl,hs⟩
 refine d06 (h s hs) ?_;intro e F' H' h2;cases e with
 |normal=>obtain⟨s',g1,g2,g3⟩:=h2;exact⟨_,_,_,g1,g2,s',rfl,rfl,rfl,g3⟩
 |exit id=>exact h2
 |ret=>exact h2
theorem a22{σ:Type}{m:Nat}{keep:List Nat}{Fs:σ→Frm}{Hs:σ→a08}{meas:σ→Nat}{Inv:σ→Prop}{n:Nat}(s:σ)(h1:gcD m keep F H=some (Fs s,Hs s))(h2:meas s<n)(h3:Inv s):lp m keep Fs Hs meas Inv n Q .normal F H:=⟨s,h1,h2,h3⟩
end
theorem d54{E:Env}{M:List Fact}{g:FuncId}{args:List AV}{H:a08}{code:Code}{N:Nat}{results:List ResultVar}{r:AV×a08}
 (hfn:E.fn g=some ⟨code,N,results⟩)(hno:∀y∈M,y.g≠g)(hN:Nat.ble args.length N=true){m:Nat}(hm:H.length=m)(h:Wp (cx E M m N g 0) code (a3l 0 args) H (fq E g m results r))(hp:E.prim g args=none:=by rfl)(hz:E.zf g=false:=by rfl)(hw:E.raw g=false:=by rfl):sem E M g args H=some r:=by
 subst hm;obtain⟨e,F',H',h1,h2⟩:=b7j _ h;obtain⟨v,H2⟩:=r;cases e with
 |normal=>obtain⟨vs,h3,h4⟩:=h2;exact c0m hfn hno hN h1 (λ_ h=>by cases h) h3 h4 hp hz hw
 |ret=>obtain⟨vs,h3,h4⟩:=h2;exact c0m hfn hno hN h1 (λ_ h=>by cases h) h3 h4 hp hz hw
 |exit id=>exact h2.elim
theorem xa{E:Env}{M:List Fact}{m N:Nat}{g:FuncId}{cur:Nat}{c:Code}{F F1:Frm}{H H1:a08}{log:List LogE}{t:Bool}{Q:b4t}(h:hs E M N c F H F1 H1 log t)(hl:sd c log=true)(k:ct (cx E M m N g cur) c t F1 H1 Q):Wp (cx E M m N g cur) c F H Q:=by
 cases c with
 |region id ops draw=>exact xs (congrArg Prod.fst h) hl k
 |cond c a b=>have h1:opv E F c = .bool t:=d1e (congrArg Prod.fst h);have h2:(F,H,([]:List LogE))=(F1,H1,log):=congrArg Prod.snd h;cases h2;exact xI h1 k
 |_=>exact k.elim
theorem gS:(∀a b:Code,(some a).getD b=a)∧(∀l:List ResultVar,(List.toArray l).toList=l):=⟨λ_ _=>rfl,λ_=>rfl⟩
def AExit.fin:AExit→Bool
 |.exit _=>false
 |_=>true
@[go_sem] theorem e4l:AExit.ret.fin=true:=by rfl
@[go_sem] theorem e4m:AExit.normal.fin=true:=by rfl
theorem fqb{E:Env}{g:FuncId}{m:Nat}{results:List ResultVar}{r:AV×a08}{e:AExit}{F:Frm}{H:a08}(h:(bif e.fin then a17 (a1m E F H results) λvs=>a5s (E.thaw g) m (a7q vs) H else none)=some r):fq E g m results r e F H:=by
 cases ha:a1m E F H results with
 |none=>rw[ha]at h;cases e<;>cases h
 |some vs=>
  rw[ha]at h;cases e with
  |exit i=>cases h
  |_=>exact⟨vs,ha,h⟩
theorem sv{E:Env}{M:List Fact}{g:FuncId}{args:List AV}{H:a08}{r:AV×a08}(f:Func)(h:Wp (cx E M H.length f.ntmps g 0) (f.body.getD .skip) (a3l 0 args) H (fq E g H.length f.results.toList r))(hfn:E.fn g=some ⟨f.body.getD .skip,f.ntmps,f.results.toList⟩:=by kernel_rfl)
 (hno:(M.all λy=>!Nat.beq y.g g)=true:=by rfl)(hN:Nat.ble args.length f.ntmps=true:=by rfl)(hp:E.prim g args=none:=by rfl)(hz:E.zf g=false:=by rfl)(hw:E.raw g=false:=by rfl):sem E M g args H=some r:=d54 hfn (λy hy e=>by
 have:=List.all_eq_true.1 hno y hy;rw[e]at this;simp at this) hN rfl h hp hz hw
end Go.Ax
/- AxRead: what the row's reading of an argument gives: abstract values of the argument's type. -/
namespace Go.Ax
def Typ(E:Env):Nat→TypeId→List AV→Prop
 |0,_,_=>False
 |n+1,t,avs=>match E.und t with
  |some .bool=>∃b,avs=[.bool b]
  |some (.int k)=>∃i,avs=[.int k i]∧(Lit.int k i).wf=true
  |some .string=>∃s,avs=[.str s]∧s.length≤maxLen
  |some (.slice e)=>avs=[.nilslice]∨∃rows cap,avs=[.islice rows (some cap)]∧rows.length≤cap∧cap≤maxLen∧∀r∈rows,r.length=E.sz e∧Typ E n e r
  |some (.struct fs)=>∃parts:List (List AV),avs=parts.flatten∧parts.length=fs.toList.length∧∀(i:Nat) f p,fs.toList[i]?=some f→parts[i]?=some p→p.length=E.sz f.type∧Typ E n f.type p
  |some (.array m e)=>∃parts:List (List AV),avs=parts.flatten∧parts.length=m∧∀p∈parts,p.length=E.sz e∧Typ E n e p
  |_=>False
def c3w(E:Env):Nat→List Field→Option Nat
 |o,[]=>some o
 |o,f::r=>bif Nat.beq f.offset o then c3w E (o+E.sz f.type) r else none
def a4n(E:Env):Nat→TypeId→Bool
 |0,_=>false
 |n+1,t=>match E.und t with
  |some .bool=>true
  |some (.int _)=>true
  |some .string=>true
  |some (.slice e)=>(E.und e).isSome&&Nat.blt 0 (E.sz e)&&a4n E n e
  |some (.struct fs)=>(match c3w E 0 fs.toList with|some m=>Nat.beq m (E.sz t)|none=>false)&&fs.toList.all (λf=>(E.und f.type).isSome&&a4n E n f.type)
  |some (.array m e)=>(E.und e).isSome&&Nat.beq (m*E.sz e) (E.sz t)&&a4n E n e
  |_=>false
section
variable {E:Env}{w:World}{H:Type}{enc:TypeId×Value→H}{base:Nat}{spare:Nat→Bool}{held:Bool}
theorem a3y(ok:EnvOk E){t:TypeId}{d:TypeDesc}(h:E.und t=some d):E.P.cellsOf t=E.sz t:=by obtain⟨_,i,hi,h1,_⟩:=ok.und t d h;simp[Program.cellsOf,hi,h1]
theorem c48{I:Nat→Prop}{k:Nat}{b:Nat}{Pr:List AV→Prop}:∀(len off:Nat),(∀i,i<len→∃r,Pr r∧r.length=k∧VAt I w noP r b (off+i*k))→
 ∃rows:List (List AV),rows.length=len∧(∀r∈rows,r.length=k∧Pr r)∧VRows I w k noP rows b off
 |0,off,_=>⟨[],rfl,by simp,by simp[VRows]⟩
 |len+1,off,h=>by
  obtain⟨r,h1,h2,h3⟩:=h 0 (by omega);obtain⟨rows,g1,g2,g3⟩:=c48 (Pr:=Pr) len (off+k) (λi hi=>by obtain⟨r,q1,q2,q3⟩:=h (i+1) (by omega);refine⟨r,q1,q2,?_⟩;rw[show off+k+i*k=off+(i+1)*k by rw[Nat.add_mul];omega];exact q3);refine⟨r::rows,by simp[g1],?_,?_⟩
  ·intro x hx;simp only[List.mem_cons]at hx;rcases hx with rfl|hx
   ·exact⟨h2,h1⟩
   ·exact g2 x hx
  ·simp only[VRows];exact⟨h2,by simpa using h3,g3⟩
theorem c0x{I:Nat→Prop}{cs:List Value}{n:Nat}:∀(fs:List Field) (o:Nat) {m:Nat},c3w E o fs=some m→m≤cs.length→
 (∀f∈fs,∃avs,VRels I w noP avs ((cs.drop f.offset).take (E.sz f.type))∧Typ E n f.type avs)→
 o≤m∧∃parts:List (List AV),parts.length=fs.length∧(∀(i:Nat) f p,fs[i]?=some f→parts[i]?=some p→p.length=E.sz f.type∧Typ E n f.type p)∧VRels I w noP parts.flatten ((cs.drop o).take (m-o))
 | [],o,m,ht,hm,_=>by simp only[c3w,Option.some.injEq]at ht;subst ht;exact⟨Nat.le_refl _,[],rfl,by simp,by simp[VRels]⟩
 |f::r,o,m,ht,hm,h=>by
  simp only[c3w,cond_eq_ite]at ht;split at ht
  case isFalse=>cases ht
  rename_i hfo;have hfo:f.offset=o:=by simpa using hfo
  obtain⟨hle,parts,h1,h2,h3⟩:=c0x r (o+E.sz f.type) ht hm (λg hg=>h g (by simp[hg]));obtain⟨avs,g1,g2⟩:=h f (by simp);rw[hfo]at g1;have hlen:avs.length=E.sz f.type:=by have:=VRels.length g1;rw[this];simp;omega
  refine⟨by omega,avs::parts,by simp[h1],?_,?_⟩
  ·intro i g p hg hp;cases i with
   |zero=>simp only[List.getElem?_cons_zero,Option.some.injEq]at hg hp;subst hg;subst hp;exact⟨hlen,g2⟩
   |succ i=>simp only[List.getElem?_cons_succ]at hg hp;exact h2 i g p hg hp
  ·simp only[List.flatten_cons];have:(cs.drop o).take (m-o)=(cs.drop o).take (E.sz f.type)++(cs.drop (o+E.sz f.type)).take (m-(o+E.sz f.type)):=by
    rw[show m-o=E.sz f.type+(m-(o+E.sz f.type)) by omega,List.take_add,List.drop_drop]
   rw[this];exact VRels.append g1 h3
theorem c9x{I:Nat→Prop}{cs:List Value}{n k:Nat}{e:TypeId}:∀(m o:Nat),o+m*k≤cs.length→
 (∀i,i<m→∃avs,VRels I w noP avs ((cs.drop (o+i*k)).take k)∧Typ E n e avs)→
 ∃parts:List (List AV),parts.length=m∧(∀p∈parts,p.length=k∧Typ E n e p)∧VRels I w noP parts.flatten ((cs.drop o).take (m*k))
 |0,o,_,_=>⟨[],rfl,by simp,by simp[VRels]⟩
 |m+1,o,hl,h=>by
  have hmk:(m+1)*k=k+m*k:=by rw[Nat.add_mul];omega
  obtain⟨parts,h1,h2,h3⟩:=c9x (cs:=cs) (k:=k) (e:=e) m (o+k) (by omega) (λi hi=>by obtain⟨avs,g1,g2⟩:=h (i+1) (by omega);refine⟨avs,?_,g2⟩;rw[show o+k+i*k=o+(i+1)*k by rw[Nat.add_mul];omega];exact g1);obtain⟨avs,g1,g2⟩:=h 0 (by omega);rw[Nat.zero_mul,Nat.add_zero]at g1;have hlen:avs.length=k:=by have:=VRels.length g1;rw[this];simp;omega
  refine⟨avs::parts,by simp[h1],?_,?_⟩
  ·intro p hp;simp only[List.mem_cons]at hp;rcases hp with rfl|hp
   ·exact⟨hlen,g2⟩
   ·exact h2 p hp
  ·simp only[List.flatten_cons];rw[hmk,List.take_add,List.drop_drop];exact VRels.append g1 h3
theorem b6s{α β:Type}{f:α→Option β}{l:List α}{r:List β}(h:l.mapM f=some r):∀x∈l,∃y,f x=some y:=by
 induction l generalizing r with
 |nil=>simp
 |cons a l ih=>
  rw[List.mapM_cons]at h;intro x hx;cases hfa:f a with
  |none=>simp[hfa]at h
  |some y=>
   simp only[hfa,Option.bind_eq_bind,Option.bind_some]at h;cases hl:l.mapM f with
   |none=>simp[hl]at h
   |some r'=>
    simp only[List.mem_cons]at hx;rcases hx with rfl|hx
    ·exact⟨y,hfa⟩
    ·exact ih hl x hx
theorem b48{I:Nat→Prop}{avs:List AV}{cs:List Value}{b off:Nat}(hc:∀i v,cs[i]?=some v→w.cell? ⟨b,off+i,none⟩=some v)(h:VRels I w noP avs cs):VAt I w noP avs b off:=VAt.of_cells (λi v hv=>hc i v hv) h
theorem c4f(ok:EnvOk E):∀(n:Nat) (t:TypeId),a4n E n t=true→∀(fuel:Nat) (cs:List Value) (x:DataW H×List MemPlace),DataW.trod enc E.P w base spare held fuel t cs=some x→
 ∃avs,VRels (Old w) w noP avs cs∧Typ E n t avs
 |0,t,hr=>by simp[a4n]at hr
 |n+1,t,hr=>by
  intro fuel cs x h;cases fuel with
  |zero=>simp[DataW.trod]at h
  |succ fuel=>
  have ih:=c4f ok n;unfold a4n at hr;unfold DataW.trod at h;cases hu:E.und t with
  |none=>rw[hu]at hr;simp at hr
  |some d=>
   have hP:=(ok.und t d hu).1;have hsz:=a3y ok hu;rw[hu]at hr;rw[hP]at h;cases d<;>simp only[Bool.false_eq_true]at hr
   case bool=>
    obtain⟨b,rfl⟩:∃b,cs=[.bool b]:=by split at h<;>simp_all
    exact⟨[.bool b],by simp[VRels,VRel],by simp[Typ,hu]⟩
   case int k=>
    obtain⟨i,rfl,hw⟩:∃i,cs=[.int k i]∧(Lit.int k i).wf=true:=by split at h<;>simp_all
    exact⟨[.int k i],by simp[VRels,VRel],by simp[Typ,hu,hw]⟩
   case string=>
    obtain⟨b,rfl,hw⟩:∃b:ByteArray,cs=[.string b]∧b.size≤maxLen:=by split at h<;>simp_all
    exact⟨[.str b.data.toList],by simp[VRels,VRel],by simp only[Typ,hu];exact⟨_,rfl,by simpa using hw⟩⟩
   case slice e=>
    simp only[Bool.and_eq_true,Nat.blt_eq]at hr;obtain⟨⟨hr1,hr2⟩,hr3⟩:=hr;obtain⟨de,hde⟩:=Option.isSome_iff_exists.1 hr1;have hsze:=a3y ok hde;have hkey:cs=[.slice none 0 0]∨∃a len cap,cs=[.slice (some a) len cap]∧len≤cap∧cap≤maxLen∧
     ∃elems,((List.range len).mapM λi=>(w.cells? base (a.add (i*E.P.cellsOf e)) (E.P.cellsOf e)).bind (DataW.trod enc E.P w base spare held fuel e))=some elems:=by
     split at h
     all_goals first|(rename_i heq;cases heq;done)|(cases h;done)|skip
     ·left;rfl
     ·rename_i e' a len cap heq;cases heq;dsimp only at h;split at h
      case isFalse=>cases h
      rename_i hc;right;refine⟨a,len,cap,rfl,hc.2.1,hc.2.2,?_⟩;cases hm:((List.range len).mapM λi=>(w.cells? base (a.add (i*E.P.cellsOf e)) (E.P.cellsOf e)).bind (DataW.trod enc E.P w base spare held fuel e))with
      |none=>rw[hm]at h;simp at h
      |some elems=>exact⟨elems,rfl⟩
    rcases hkey with rfl|⟨a,len,cap,rfl,hlc,hcm,elems,hel⟩
    ·exact⟨[.nilslice],by simp[VRels,VRel],by simp only[Typ,hu];exact .inl trivial⟩
    ·have hrow:∀i,i<len→∃r,Typ E n e r∧r.length=E.sz e∧VAt (Old w) w noP r a.block (a.off+i*E.sz e)∧a.spot=none∧a.block<w.heap.size:=by
      have hat:∀i,i<len→∃cs' y,cs'.length=E.sz e∧(∀j,j<E.sz e→w.cell? ((a.add (i*E.sz e)).add j)=cs'[j]?)∧DataW.trod enc E.P w base spare held fuel e cs'=some y:=by
       intro i hi;obtain⟨y,hy⟩:=b6s hel i (by simpa using hi);rw[hsze]at hy;cases hc:w.cells? base (a.add (i*E.sz e)) (E.sz e)with
       |none=>rw[hc]at hy;simp at hy
       |some cs'=>rw[hc]at hy;obtain⟨_,h2,h3⟩:=World.cells?_some hc;exact⟨cs',y,h2,h3,by simpa using hy⟩
      intro i hi;have hspot:a.spot=none∧a.block<w.heap.size:=by
       obtain⟨cs0,y0,h1,h2,_⟩:=hat 0 (by omega);have h3:=h2 0 hr2;rw[Nat.zero_mul,show(a.add 0).add 0=a from by simp[Addr.add],z9e (by omega)]at h3;unfold World.cell? at h3;split at h3
       ·rename_i hb;refine⟨?_,(Array.getElem?_eq_some_iff.1 hb).1⟩;cases hs:a.spot with
        |none=>rfl
        |some _=>rw[hs]at h3;simp at h3
       ·cases h3
      obtain⟨cs',y,h1,h2,h3⟩:=hat i hi;obtain⟨r,q1,q2⟩:=ih e hr3 fuel cs' y h3;refine⟨r,q2,by rw[VRels.length q1,h1],b48 ?_ q1,hspot⟩;intro j v hv;have hj:j<E.sz e:=by rw[←h1];exact(List.getElem?_eq_some_iff.1 hv).1
      have:=h2 j hj;rw[hv]at this;rw[←this]
      congr 1
      obtain⟨ab,ao,as⟩:=a;obtain⟨rfl,_⟩:=hspot;unfold Addr.add;split<;>split<;>simp_all
     obtain⟨rows,g1,g2,g3⟩:=c48 (Pr:=Typ E n e) len a.off (λi hi=>by obtain⟨r,q1,q2,q3,_⟩:=hrow i hi;exact⟨r,q1,q2,q3⟩);refine⟨[.islice rows (some cap)],?_,by simp only[Typ,hu];exact .inr ⟨rows,cap,rfl,by omega,hcm,g2⟩⟩;simp only[VRels];refine⟨_,[],rfl,?_,rfl⟩;simp only[VRel];refine⟨a,cap,E.sz e,by rw[g1],by omega,by simp,?_⟩;cases len with
     |zero=>exact .inl (List.length_eq_zero_iff.1 g1)
     |succ len=>obtain⟨_,_,_,_,q4,q5⟩:=hrow 0 (by omega);exact .inr ⟨q4,q5,g3⟩
   case struct fs=>
    simp only[Bool.and_eq_true,List.all_eq_true]at hr;obtain⟨hr1,hr2⟩:=hr;split at hr1
    case h_2=>cases hr1
    rename_i m hm;have hmt:m=E.sz t:=by simpa using hr1
    have hkey:cs.length=E.P.cellsOf t∧∃xs,(fs.toList.mapM λf=>DataW.trod enc E.P w base spare held fuel f.type ((cs.drop f.offset).take (E.P.cellsOf f.type)))=some xs:=by
     dsimp only at h;split at h
     ·rename_i hl;obtain⟨xs,hxs,_⟩:=a0f h;exact⟨hl,xs,hxs⟩
     ·cases h
    obtain⟨hlen,xs,hxs⟩:=hkey;obtain⟨_,parts,h1,h2,h3⟩:=c0x (E:=E) (I:=Old w) (w:=w) (cs:=cs) (n:=n) fs.toList 0 hm (by omega) (λf hf=>by obtain⟨y,hy⟩:=b6s hxs f hf;have h2:=hr2 f hf;obtain⟨df,hdf⟩:=Option.isSome_iff_exists.1 h2.1;rw[a3y ok hdf]at hy;exact ih f.type h2.2 fuel _ _ hy);refine⟨parts.flatten,?_,by simp only[Typ,hu];exact⟨parts,rfl,h1,h2⟩⟩;rw[List.drop_zero,Nat.sub_zero,List.take_of_length_le (by omega)]at h3;exact h3
   case array m e=>
    simp only[Bool.and_eq_true]at hr;obtain⟨⟨hr1,hr2⟩,hr3⟩:=hr;obtain⟨de,hde⟩:=Option.isSome_iff_exists.1 hr1;have hsze:=a3y ok hde;have hmk:m*E.sz e=E.sz t:=by simpa using hr2
    have hkey:cs.length=E.P.cellsOf t∧∃xs,((List.range m).mapM λi=>DataW.trod enc E.P w base spare held fuel e ((cs.drop (i*E.P.cellsOf e)).take (E.P.cellsOf e)))=some xs:=by
     dsimp only at h;split at h
     ·rename_i hl;obtain⟨xs,hxs,_⟩:=a0f h;exact⟨hl,xs,hxs⟩
     ·cases h
    obtain⟨hlen,xs,hxs⟩:=hkey;obtain⟨parts,h1,h2,h3⟩:=c9x (E:=E) (I:=Old w) (w:=w) (cs:=cs) (n:=n) (k:=E.sz e) (e:=e) m 0 (by omega) (λi hi=>by obtain⟨y,hy⟩:=b6s hxs i (by simpa using hi);rw[hsze]at hy;rw[Nat.zero_add];exact ih e hr3 fuel _ _ hy);refine⟨parts.flatten,?_,by simp only[Typ,hu];exact⟨parts,rfl,h1,h2⟩⟩;rw[List.drop_zero,List.take_of_length_le (by omega)]at h3;exact h3
end
end Go.Ax
/- AxArgs: a row's arguments as abstract values. -/
namespace Go.Ax
def d4c(E:Env)(n:Nat)(t:TypeId)(av:AV):Prop:=
 match E.und t with
 |some d=>bif a2l d then ∃avs,av = .agg avs∧Typ E n t avs else Typ E n t [av]
 |none=>False
def TypAs(E:Env)(n:Nat):List TypeId→List AV→Prop
 | [],avs=>avs=[]
 |t::ts,avs=>∃a r,avs=a::r∧d4c E n t a∧TypAs E n ts r
section
variable {E:Env}{w:World}{H:Type}{enc:TypeId×Value→H}{spare:Nat→Bool}{held:Bool}{b0:Nat}
theorem d7h(ok:EnvOk E){n:Nat}{t:TypeId}{v:Value}{d:DataW H}{ps:List MemPlace}(hr:a4n E n t=true)(hv:Value.okWide E.P w .any b0 t v)(h:DataW.Trod enc E.P w 0 spare held t v d ps) :
 ∃a,VRel (Old w) w noP a v∧d4c E n t a:=by
 obtain⟨fuel,hf⟩:=h;obtain⟨avs,h1,h2⟩:=c4f ok n t hr fuel _ _ hf;cases hu:E.und t with
 |none=>cases n<;>simp[a4n,hu]at hr
 |some dd=>
  have hP:=(ok.und t dd hu).1;unfold Value.okWide at hv;rw[hP]at hv;cases hag:a2l dd with
  |true=>
   have hv:∃cs,v = .agg cs∧cs.size=E.P.cellsOf t∧Row.okWide E.P w .any b0 t cs:=by cases dd<;>simp[a2l]at hag<;>exact hv
   obtain⟨cs,rfl,_,_⟩:=hv;exact⟨.agg avs,by simp only[VRel];exact⟨cs,rfl,h1⟩,by simp only[d4c,hu,hag,cond_true];exact⟨avs,rfl,h2⟩⟩
  |false=>
   have hcell:v.cells = #[v]:=by
    cases v with
    |agg cs=>exfalso;cases dd<;>simp[a2l]at hag<;>simp[Cell.okWide,Cell.ok,hP]at hv
    |_=>rfl
   rw[hcell]at h1;have h3:=h1;obtain⟨a,rfl⟩:∃a,avs=[a]:=by
    have:=VRels.length h1
    match avs,this with
    | [a],_=>exact⟨a,rfl⟩
   simp only[VRels]at h3;obtain⟨c,_,hc,h4,rfl⟩:=h3;simp only[List.cons.injEq,and_true]at hc;subst hc;exact⟨a,h4,by simp only[d4c,hu,hag,cond_false];exact h2⟩
theorem c68(ok:EnvOk E){n:Nat}:∀(ts:List TypeId) (vs:List Value) (ds:List (DataW H)) (ps:List MemPlace),DataW.TrodAll enc E.P w 0 spare held ts vs ds ps→
 (∀(j:Nat) t v,ts[j]?=some t→vs[j]?=some v→Value.okWide E.P w .any b0 t v)→(ts.all (a4n E n))=true→∃args,VRels (Old w) w noP args vs∧TypAs E n ts args
 | [],vs,ds,ps,h,_,_=>by
  cases vs with
  |nil=>exact⟨[],by simp[VRels],rfl⟩
  |cons v vs=>cases ds<;>simp[DataW.TrodAll]at h
 |t::ts,vs,ds,ps,h,hv,hr=>by
  cases vs with
  |nil=>cases ds<;>simp[DataW.TrodAll]at h
  |cons v vs=>
   cases ds with
   |nil=>simp[DataW.TrodAll]at h
   |cons d ds=>simp only[DataW.TrodAll]at h;obtain⟨p,q,h1,h2,_⟩:=h;simp only[List.all_cons,Bool.and_eq_true]at hr;obtain⟨a,g1,g2⟩:=d7h ok hr.1 (hv 0 t v rfl rfl) h1;obtain⟨r,g3,g4⟩:=c68 ok ts vs ds q h2 (λj t v ht hv'=>hv (j+1) t v (by simpa using ht) (by simpa using hv')) hr.2;exact⟨a::r,by simp only[VRels];exact⟨v,vs,rfl,g1,g3⟩,⟨a,r,rfl,g2,g4⟩⟩
end
end Go.Ax
/- AxLaid: what a listed package-level variable d0z as, as abstract cells. -/
namespace Go.Ax
def c1h(E:Env)(f:TypeId→DataW Unit→Option (List AV)):Nat→List Field→List (DataW Unit)→Option (List AV)
 |_,[],[]=>some []
 |o,x::fs,d::ds=>bif Nat.beq x.offset o&&(E.und x.type).isSome then
  match f x.type d,c1h E f (o+E.sz x.type) fs ds with
  |some a,some b=>bif Nat.beq a.length (E.sz x.type)then some (a++b)else none
  |_,_=>none
  else none
 |_,_,_=>none
def b3k(k:Nat)(f:DataW Unit→Option (List AV)):List (DataW Unit)→Option (List (List AV))
 | []=>some []
 |d::ds=>match f d,b3k k f ds with
  |some a,some b=>bif Nat.beq a.length k then some (a::b)else none
  |_,_=>none
def b4m(E:Env):Nat→TypeId→DataW Unit→Option (List AV)
 |0,_,_=>none
 |n+1,t,d=>match E.und t,d with
  |some .bool,.lit (.bool b)=>some [.bool b]
  |some (.int k),.lit (.int k' i)=>bif k==k' then some [.int k i]else none
  |some .string,.lit (.string s)=>some [.str s]
  |some (.struct fs),.agg ds=>match c1h E (b4m E n) 0 fs.toList ds with
   |some avs=>bif Nat.beq avs.length (E.sz t)then some avs else none
   |none=>none
  |some (.array m e),.agg ds=>bif (E.und e).isSome&&Nat.beq (m*E.sz e) (E.sz t)&&Nat.beq ds.length m then(b3k (E.sz e) (b4m E n e) ds).map List.flatten else none
  |some (.slice _),.nil=>some [.nilslice]
  |some (.slice e),.slice es spare=>bif (E.und e).isSome&&Nat.blt 0 (E.sz e)&&Nat.blt 0 es.length then(b3k (E.sz e) (b4m E n e) es).map λrows=>[.islice rows (some (es.length+spare.length))]else none
  |_,_=>none
section
variable {E:Env}{w:World}{enc:TypeId×Value→Unit}{base:Nat}{held:Bool}
theorem a6q{α β:Type}{f:α→Option β}{a:α}{l:List α}{r:List β}(h:(a::l).mapM f=some r):∃b r',f a=some b∧l.mapM f=some r'∧r=b::r':=by
 rw[List.mapM_cons]at h;cases hfa:f a with
 |none=>simp[hfa]at h
 |some y=>
  simp only[hfa,Option.bind_eq_bind,Option.bind_some]at h;cases hl:l.mapM f with
  |none=>simp[hl]at h
  |some r'=>simp only[hl,Option.bind_some]at h;cases h;exact⟨y,r',rfl,rfl,rfl⟩
theorem b6q{α β:Type}{f:α→Option β}:∀{l:List α} {r:List β},l.mapM f=some r→r.length=l.length
 | [],r,h=>by cases h;rfl
 |a::l,r,h=>by obtain⟨b,r',_,h2,rfl⟩:=a6q h;simp[b6q h2]
theorem b6r{α β:Type}{f:α→Option β}:∀{l:List α} {r:List β},l.mapM f=some r→∀(i:Nat) a,l[i]?=some a→∃b,f a=some b∧r[i]?=some b
 | [],r,h,i,a,ha=>by simp at ha
 |x::l,r,h,i,a,ha=>by
  obtain⟨b,r',h1,h2,rfl⟩:=a6q h;cases i with
  |zero=>simp only[List.getElem?_cons_zero,Option.some.injEq]at ha;subst ha;exact⟨b,h1,rfl⟩
  |succ i=>simp only[List.getElem?_cons_succ]at ha⊢;exact b6r h2 i a ha
theorem b0x{k:Nat}{f:DataW Unit→Option (List AV)}:∀{ds:List (DataW Unit)} {rows:List (List AV)},b3k k f ds=some rows→rows.length=ds.length
 | [],rows,h=>by cases h;rfl
 |d::ds,rows,h=>by
  simp only[b3k]at h;split at h
  case h_2=>cases h
  rename_i a b ha hb;rw[cond_eq_ite]at h;split at h
  ·cases h;simp[b0x hb]
  ·cases h
theorem b0y{k:Nat}{f:DataW Unit→Option (List AV)}:∀{ds:List (DataW Unit)} {rows:List (List AV)},b3k k f ds=some rows→∀(i:Nat) d,ds[i]?=some d→∃a,f d=some a∧a.length=k∧rows[i]?=some a
 | [],rows,h,i,d,hd=>by simp at hd
 |x::ds,rows,h,i,d,hd=>by
  simp only[b3k]at h;split at h
  case h_2=>cases h
  rename_i a b ha hb;rw[cond_eq_ite]at h;split at h
  case isFalse=>cases h
  rename_i hk;cases h;cases i with
  |zero=>simp only[List.getElem?_cons_zero,Option.some.injEq]at hd;subst hd;exact⟨a,ha,by simpa using hk,rfl⟩
  |succ i=>simp only[List.getElem?_cons_succ]at hd⊢;exact b0y hb i d hd
theorem b3m{I:Nat→Prop}{cs:List Value}{f:TypeId→DataW Unit→Option (List AV)}{g:Field→Option (DataW Unit×List MemPlace)}
 (hg:∀x y avs,g x=some y→f x.type y.1=some avs→VRels I w noP avs ((cs.drop x.offset).take (E.sz x.type))) :
 ∀(fs:List Field) (o:Nat) {xs:List (DataW Unit×List MemPlace)} {avs:List AV},fs.mapM g=some xs→c1h E f o fs (xs.map (·.1))=some avs→VRels I w noP avs ((cs.drop o).take avs.length)
 | [],o,xs,avs,hm,hf=>by cases hm;cases hf;simp[VRels]
 |x::fs,o,xs,avs,hm,hf=>by
  obtain⟨y,ys,h1,h2,rfl⟩:=a6q hm;simp only[List.map_cons,c1h]at hf;rw[cond_eq_ite]at hf;split at hf
  case isFalse=>cases hf
  rename_i hc;simp only[Bool.and_eq_true,Nat.beq_eq]at hc;split at hf
  case h_2=>cases hf
  rename_i a b ha hb;rw[cond_eq_ite]at hf;split at hf
  case isFalse=>cases hf
  rename_i hl;rw[Nat.beq_eq]at hl;cases hf;have ih:=b3m hg fs _ h2 hb;have h3:=hg x y a h1 ha;rw[hc.1,←hl]at h3;rw[List.length_append,List.take_add,List.drop_drop,hl]at *;exact VRels.append h3 ih
theorem b7t{I:Nat→Prop}{cs:List Value}{k:Nat}:∀(rows:List (List AV)) (o:Nat),(∀(i:Nat) r,rows[i]?=some r→r.length=k∧VRels I w noP r ((cs.drop (o+i*k)).take k))→
 VRels I w noP rows.flatten ((cs.drop o).take (rows.length*k))
 | [],o,_=>by simp[VRels]
 |r::rows,o,h=>by have h0:=h 0 r rfl;have ih:=b7t rows (o+k) (λi r hr=>by have:=h (i+1) r (by simpa using hr);rw[show o+k+i*k=o+(i+1)*k by rw[Nat.add_mul];omega];exact this);simp only[List.flatten_cons,List.length_cons];rw[show(rows.length+1)*k=k+rows.length*k by rw[Nat.add_mul];omega,List.take_add,List.drop_drop];refine VRels.append ?_ ih;simpa using h0.2
theorem b8c(ok:EnvOk E):∀(n:Nat) (t:TypeId) (fuel:Nat) (cs:List Value) (x:DataW Unit×List MemPlace) (avs:List AV),DataW.trod enc E.P w base (λ_=>true) held fuel t cs=some x→b4m E n t x.1=some avs→
 VRels (Old w) w noP avs cs
 |0,t,fuel,cs,x,avs,_,hf=>by simp[b4m]at hf
 |n+1,t,0,cs,x,avs,h,hf=>by simp[DataW.trod]at h
 |n+1,t,fuel+1,cs,x,avs,h,hf=>by
  have ih:=b8c ok n;unfold b4m at hf;unfold DataW.trod at h;cases hu:E.und t with
  |none=>rw[hu]at hf;simp at hf
  |some dd=>
   have hP:=(ok.und t dd hu).1;have hszt:=a3y ok hu;rw[hu]at hf;rw[hP]at h;cases dd
   case bool=>
    obtain⟨b,rfl,rfl⟩:∃b,cs=[.bool b]∧x=(.lit (.bool b),[]):=by split at h<;>simp_all
    simp only[Option.some.injEq]at hf;subst hf;simp[VRels,VRel]
   case int k=>
    obtain⟨b,rfl,rfl⟩:∃b,cs=[.int k b]∧x=(.lit (.int k b),[]):=by split at h<;>simp_all
    simp only[cond_eq_ite]at hf;split at hf
    ·cases hf;simp[VRels,VRel]
    ·cases hf
   case string=>
    obtain⟨b,rfl,rfl⟩:∃b:ByteArray,cs=[.string b]∧x=(.lit (.string b.data.toList),[]):=by split at h<;>simp_all
    simp only[Option.some.injEq]at hf;subst hf;simp[VRels,VRel]
   case struct fs=>
    dsimp only at h;split at h
    case isFalse=>cases h
    rename_i hl;obtain⟨xs,hxs,rfl⟩:=a0f h;dsimp only at hf;split at hf
    case h_2=>cases hf
    rename_i avs' hff;rw[cond_eq_ite]at hf;split at hf
    case isFalse=>cases hf
    rename_i hl2;rw[Nat.beq_eq]at hl2;cases hf;have key:=b3m (E:=E) (I:=Old w) (w:=w) (cs:=cs) (f:=b4m E n)
     (g:=λf=>DataW.trod enc E.P w base (λ_=>true) held fuel f.type ((cs.drop f.offset).take (E.P.cellsOf f.type))) ?_ fs.toList 0 hxs hff
    ·rw[List.drop_zero,List.take_of_length_le (by omega)]at key;exact key
    ·intro x y avs hy hfa;have hund:∃dx,E.und x.type=some dx:=by
      cases n with
      |zero=>simp[b4m]at hfa
      |succ n=>unfold b4m at hfa;cases hux:E.und x.type with
       |none=>rw[hux]at hfa;simp at hfa
       |some dx=>exact⟨dx,rfl⟩
     obtain⟨dx,hdx⟩:=hund;rw[a3y ok hdx]at hy;exact ih x.type fuel _ y avs hy hfa
   case array m e=>
    dsimp only at h;split at h
    case isFalse=>cases h
    rename_i hl;obtain⟨xs,hxs,rfl⟩:=a0f h;dsimp only at hf;rw[cond_eq_ite]at hf;split at hf
    case isFalse=>cases hf
    rename_i hc;simp only[Bool.and_eq_true,Nat.beq_eq]at hc;obtain⟨rows,hrows,rfl⟩:=a0f hf;obtain⟨de,hde⟩:=Option.isSome_iff_exists.1 hc.1.1;have hsze:=a3y ok hde;have hlen:rows.length=m:=by rw[b0x hrows];simpa using hc.2
    have key:=b7t (I:=Old w) (w:=w) (cs:=cs) (k:=E.sz e) rows 0 (λi r hr=>by
     have hi:i<m:=by rw[←hlen];exact(List.getElem?_eq_some_iff.1 hr).1
     obtain⟨y,hy,hyi⟩:=b6r hxs i i (by simp[hi]);obtain⟨a,ha,hal,hai⟩:=b0y hrows i y.1 (by simp[hyi]);rw[hr]at hai;cases hai;refine⟨hal,?_⟩;rw[Nat.zero_add];rw[hsze]at hy;exact ih e fuel _ y r hy ha)
    rw[List.drop_zero,List.take_of_length_le (by rw[hlen];omega)]at key;exact key
   case slice e=>
    split at h
    all_goals first|(rename_i heq;cases heq;done)|(cases h;done)|skip
    ·cases h;simp only[Option.some.injEq]at hf;subst hf;simp[VRels,VRel]
    ·rename_i e' a len cap heq;cases heq;dsimp only at h;split at h
     case isFalse=>cases h
     rename_i hc;cases hm:((List.range len).mapM λi=>(w.cells? base (a.add (i*E.P.cellsOf e)) (E.P.cellsOf e)).bind (DataW.trod enc E.P w base (λ_=>true) held fuel e))with
     |none=>rw[hm]at h;simp at h
     |some elems=>
      rw[hm]at h;simp only[Option.bind_some,if_true]at h;obtain⟨rest,hrest,rfl⟩:=a0f h;dsimp only at hf;rw[cond_eq_ite]at hf;split at hf
      case isFalse=>cases hf
      rename_i hc2;simp only[Bool.and_eq_true,Nat.blt_eq,List.length_map]at hc2;obtain⟨rows,hrows,rfl⟩:=a0f hf;obtain⟨de,hde⟩:=Option.isSome_iff_exists.1 hc2.1.1;have hsze:=a3y ok hde;have hlr:rows.length=elems.length:=by rw[b0x hrows];simp
      have hle:elems.length=len:=by rw[b6q hm];simp
      have hlrest:rest.length=cap-len:=by rw[b6q hrest];simp
      have hat:∀i,i<len→∃cs' y,elems[i]?=some y∧cs'.length=E.sz e∧(∀j,j<E.sz e→w.cell? ((a.add (i*E.sz e)).add j)=cs'[j]?)∧DataW.trod enc E.P w base (λ_=>true) held fuel e cs'=some y:=by
       intro i hi;obtain⟨y,hy,hyi⟩:=b6r hm i i (by simp[hi]);rw[hsze]at hy;cases hcs:w.cells? base (a.add (i*E.sz e)) (E.sz e)with
       |none=>rw[hcs]at hy;simp at hy
       |some cs'=>rw[hcs]at hy;obtain⟨_,h2,h3⟩:=World.cells?_some hcs;exact⟨cs',y,hyi,h2,h3,by simpa using hy⟩
      have hspot:a.spot=none∧a.block<w.heap.size:=by
       obtain⟨cs0,y0,_,h1,h2,_⟩:=hat 0 (by omega);have h3:=h2 0 hc2.1.2;rw[Nat.zero_mul,show(a.add 0).add 0=a from by simp[Addr.add],z9e (by omega)]at h3;unfold World.cell? at h3;split at h3
       ·rename_i hb;refine⟨?_,(Array.getElem?_eq_some_iff.1 hb).1⟩;cases hs:a.spot with
        |none=>rfl
        |some _=>rw[hs]at h3;simp at h3
       ·cases h3
      simp only[VRels];refine⟨_,[],rfl,?_,rfl⟩;simp only[VRel];refine⟨a,cap,E.sz e,by rw[hlr,hle],by omega,λn hn=>by cases hn;simp;omega,.inr ⟨hspot.1,hspot.2,?_⟩⟩;have key:∀(rows':List (List AV)) (o:Nat),(∀(i:Nat) r,rows'[i]?=some r→r.length=E.sz e∧VAt (Old w) w noP r a.block (a.off+(o+i)*E.sz e))→VRows (Old w) w (E.sz e) noP rows' a.block (a.off+o*E.sz e):=by
       intro rows'
       induction rows' with
       |nil=>intro o _;simp[VRows]
       |cons r rs ihr=>intro o hh;have h0:=hh 0 r rfl;simp only[VRows];refine⟨h0.1,by simpa using h0.2,?_⟩;rw[show a.off+o*E.sz e+E.sz e=a.off+(o+1)*E.sz e by rw[Nat.add_mul];omega];refine ihr (o+1) (λi r hr=>?_);have:=hh (i+1) r (by simpa using hr);rw[show o+1+i=o+(i+1) by omega];exact this
      have:=key rows 0 (λi r hr=>by
       have hi:i<len:=by rw[←hle,←hlr];exact(List.getElem?_eq_some_iff.1 hr).1
       obtain⟨cs',y,h0,h1,h2,h3⟩:=hat i hi;obtain⟨av,ha,hal,hai⟩:=b0y hrows i y.1 (by simp[h0]);rw[hr]at hai;cases hai;refine⟨hal,?_⟩;rw[Nat.zero_add];refine b48 ?_ (ih e fuel _ y r h3 ha);intro j v hv;have hj:j<E.sz e:=by rw[←h1];exact(List.getElem?_eq_some_iff.1 hv).1
       have:=h2 j hj;rw[hv]at this;rw[←this]
       congr 1
       obtain⟨ab,ao,as⟩:=a;obtain⟨rfl,_⟩:=hspot;unfold Addr.add;split<;>split<;>simp_all)
      simpa using this
   all_goals (simp only at hf;first|(cases hf;done)|(split at hf<;>cases hf))
theorem holds_of_laid(ok:EnvOk E){laid:List (String×DataW Unit)}(h:laidMet E.P laid w)
 (hG:∀g cs,E.G g=some cs→∃x∈laid,E.P.globalNamed x.1=some g∧∃t,(E.P.globals[g]?).map (·.type)=some t∧b4m E 8 t x.2=some cs):Holds E w:=by
 obtain⟨ps,hv,hnd,hcell⟩:=h;have hall:∀(l:List (String×DataW Unit)) ps,DataW.LaidVars E.P w l ps→∀x∈l,∃g t cs fuel p,E.P.globalNamed x.1=some g∧(E.P.globals[g]?).map (·.type)=some t∧w.var? E.P x.1=some cs∧DataW.trod (λ_=>()) E.P w 0 (λ_=>true) false fuel t cs.toList=some (x.2,p):=by
  intro l
  induction l with
  |nil=>intro ps _ x hx;simp at hx
  |cons y r ih=>
   intro ps hv x hx;obtain⟨n,d⟩:=y;simp only[DataW.LaidVars]at hv;obtain⟨g,t,cs,fuel,p,q,h1,h2,h3,h4,h5,_⟩:=hv;simp only[List.mem_cons]at hx;rcases hx with rfl|hx
   ·exact⟨g,t,cs,fuel,p,h1,h2,h3,h4⟩
   ·exact ih q h5 x hx
 intro g cs hg;obtain⟨x,hx,h1,t,h2,h3⟩:=hG g cs hg;obtain⟨g',t',cs',fuel,p,k1,k2,k3,k4⟩:=hall laid ps hv x hx;obtain rfl:g'=g:=z9o (k1.symm.trans h1);obtain rfl:t'=t:=z9o (k2.symm.trans h2);have hr:=b8c ok 8 t' fuel _ (x.2,p) cs k4 h3;unfold World.var? at k3;rw[k1]at k3;simp only[Option.bind_some]at k3;split at k3
 case h_2=>cases k3
 rename_i cs2 e fz hheap;cases k3;refine⟨(Array.getElem?_eq_some_iff.1 hheap).1,?_,λ_=>?_⟩
 ·refine VAt.of_cells (cs:=cs'.toList) (CellsAt.of_heap hheap ?_) hr;intro j v hv;simpa using hv
 ·have hl:=VRels.length hr;rw[a1l hheap,Array.getElem?_eq_none];simp at hl;omega
end
end Go.Ax
/- AxLaw: from a run of a law's body that answers true, for all d09 arguments, to what a row asks. -/
namespace Go.Ax
open Go.ChangeShapes Go.WideShapes Go.RowKit
section
variable {E:Env}{H:Type}{enc:TypeId×Value→H}
theorem a9a{P:Program}(hl:laidOutB P=true){W W':World}(hb:Below W.heap.size W W'){sp:Nat→Bool}:∀(ts:List TypeId) (vs:List Value) (ds:List (DataW H)) (ps:List MemPlace),
 (ts.all λt=>P.readableRec t&&decide (t<P.types.size))=true→(∀p∈ps,p.block<W.heap.size)→(∀p∈ps,sp p.block=true)→
 DataW.TrodAll enc P W 0 (λ_=>true) true ts vs ds ps→DataW.TrodAll enc P W' 0 sp true ts vs ds ps
 | [],vs,ds,ps,_,_,_,h=>by cases vs<;>cases ds<;>simp only[DataW.TrodAll]at h⊢<;>exact h
 |t::ts,vs,ds,ps,hr,hlt,hs,h=>by
  cases vs with
  |nil=>simp[DataW.TrodAll]at h
  |cons v vs=>
   cases ds with
   |nil=>simp[DataW.TrodAll]at h
   |cons d ds=>simp only[DataW.TrodAll]at h⊢;obtain⟨p,q,h1,h2,rfl⟩:=h;simp only[List.all_cons,Bool.and_eq_true,decide_eq_true_eq]at hr;refine⟨p,q,?_,a9a hl hb ts vs ds q hr.2 (λx hx=>hlt x (by simp[hx])) (λx hx=>hs x (by simp[hx])) h2,rfl⟩;exact WideElems.Trod_stays hl hr.1.1 hr.1.2 h1 (λx hx=>hb.same (hlt x (by simp[hx]))) (λx hx=>hs x (by simp[hx]))
theorem c7v{P:Program}(hl:laidOutB P=true){f:Func}{s:ChangeSpec}(hvs:s.vars=[]){n:Nat}(hn:f.params.toList.length=n)
 (hs:∀ds:List (DataW H),ds.length=n→(s.fn H ds).results=[.lit (.bool true)]∧(s.fn H ds).args=ds∧(s.fn H ds).vars=[]){tb:TypeId}(hres:f.resultTypes = #[tb])(htb:P.underlying tb=some .bool)
 (hpar:(f.params.toList.all λt=>P.readableRec t&&decide (t<P.types.size))=true)
 {W W':World}{args:Array Value}{ds gs:List (DataW H)}{before:List MemPlace}(hW:DataW.Whole enc P f.params.toList s.vars false W args.toList ds gs before)(hb:Below W.heap.size W W') :
 s.post enc P f false true false false W args (.bool true) W':=by
 have hlt:∀p∈before,p.block<W.heap.size:=λp hp=>hW.lt p hp;have hold:∀p∈before,(λb=>decide (b<W.heap.size)) p.block=true:=λp hp=>by simpa using hlt p hp
 have hW0:=hW;obtain⟨p,q,hA,hV,rfl,hz,hnd⟩:=hW;rw[hvs]at hV;obtain⟨rfl,rfl⟩:=trodVars_none hV;have hlen:ds.length=n:=by
  have:∀(ts:List TypeId) (vs:List Value) (ds:List (DataW H)) (ps:List MemPlace),DataW.TrodAll enc P W 0 (λ_=>true) true ts vs ds ps→ds.length=ts.length:=by
   intro ts
   induction ts with
   |nil=>intro vs ds ps h;cases vs<;>cases ds<;>simp[DataW.TrodAll]at h<;>rfl
   |cons t ts ih=>
    intro vs ds ps h;cases vs with
    |nil=>simp[DataW.TrodAll]at h
    |cons v vs=>cases ds with
     |nil=>simp[DataW.TrodAll]at h
     |cons d ds=>simp only[DataW.TrodAll]at h;obtain⟨p,q,_,h2,_⟩:=h;simp[ih vs ds q h2]
  rw[this _ _ _ _ hA,hn]
 obtain⟨s1,s2,s3⟩:=hs (ds++[]) (by simpa using hlen);rw[List.append_nil]at hlt hold;have hargs:∀sp:Nat→Bool,(∀x∈p,sp x.block=true)→DataW.TrodAll enc P W' 0 sp true f.params.toList args.toList (s.fn H (ds++[])).args p:=by intro sp hsp;rw[s2,List.append_nil];exact a9a hl hb _ _ _ _ hpar hlt hsp hA
 have hvars:∀sp:Nat→Bool,DataW.TrodVars enc P W' sp s.vars (s.fn H (ds++[])).vars []:=by intro sp;rw[s3,hvs];rfl
 have hr1:∀(b:Nat) (sp:Nat→Bool) (hd:Bool),DataW.TrodAll enc P W' b sp hd f.resultTypes.toList ((Value.bool true).resultList f.resultTypes.size) (s.fn H (ds++[])).results []:=by intro b sp hd;rw[s1,hres];exact⟨[],[],⟨1,by simp[DataW.trod,htb,Value.cells]⟩,rfl,rfl⟩
 refine⟨ds,[],p++[],[],p,[],hW0,hr1 _ _ _,hargs _ hold,hvars _,World.keptBut_mono (λx hx=>⟨hx,?_⟩) (hb.frame (·∈p++[])),λ_=>?_⟩
 ·simpa using hx
 ·refine⟨?_,_,_,([]++p)++[],⟨[]++p,[],trodAll_append (hargs _ (λ_ _=>rfl)) (hr1 _ _ _),hvars _,rfl,?_,?_⟩,?_⟩
  ·intro j t r hj hv;rw[hres]at hj hv
   match j,hj,hv with
   |0,hj,hv=>simp[Value.resultList]at hj hv;subst hj;subst hv;exact okWide_bool_mk htb true
  ·intro b off hp;have hin:MemPlace.cell b off∈p:=by simpa using hp
   rw[hb.frozen (hlt _ hin)];exact hz b off (by simpa using hin)
  ·intro ha;cases ha
  ·intro x hx _;simpa using hx
theorem law_contract(ok:EnvOk E)(hl:laidOutB E.P=true){f:FuncId}{fn:Func}{run:List AV→a08→Option (AV×a08)}(hfy:f≠yId)(hf:a4j E f run){m:Nat}
 (hread:(fn.params.toList.all (a4n E m))=true)(hrun:∀args,TypAs E m fn.params.toList args→∃H',run args []=some (.bool true,H'))
 {s:ChangeSpec}(hvs:s.vars=[]){n:Nat}(hn:fn.params.toList.length=n)
 (hs:∀ds:List (DataW H),ds.length=n→(s.fn H ds).results=[.lit (.bool true)]∧(s.fn H ds).args=ds∧(s.fn H ds).vars=[]){tb:TypeId}(hres:fn.resultTypes = #[tb])(htb:E.P.underlying tb=some .bool)
 (hpar:(fn.params.toList.all λt=>E.P.readableRec t&&decide (t<E.P.types.size))=true)
 (W:World)(base:Nat)(args:Array Value)(ds gs:List (DataW H))(before:List MemPlace)
 (hval:∀(j:Nat) t v,fn.params[j]?=some t→args[j]?=some v→Value.okWide E.P W .any base t v)
 (hW:DataW.Whole enc E.P fn.params.toList s.vars false W args.toList ds gs before)(hG:Holds E W) :
 Calls E.P f args W λe W'=>∃v,e = .returned v∧s.post enc E.P fn false true false false W args v W':=by
 have hA:=hW;obtain⟨p,q,hA,_⟩:=hA;obtain⟨avs,h1,h2⟩:=c68 (b0:=base) ok (n:=m) fn.params.toList args.toList ds p hA (λj t v ht hv=>hval j t v (by simpa using ht) (by simpa using hv)) hread;obtain⟨H',hr⟩:=hrun avs h2;have:=c79 hfy hf hr hG h1;rw[Array.toArray_toList]at this;refine this.mono ?_
 rintro e W' ⟨rfl,hb⟩
 exact⟨_,rfl,c7v hl hvs hn hs hres htb hpar hW hb⟩
end
end Go.Ax
/- AxTyp: d09 abstract values, taken apart. -/
namespace Go.Ax
section
variable {E:Env}{n:Nat}{t e:TypeId}{avs:List AV}
theorem b2i{α:Type}{f:α→List AV}{P:α→Prop}(hs:slT E t=some e)(he:∀r,Typ E n e r→∃x,P x∧r=f x)(h:Typ E (n+1) t avs) :
 ∃(c:Option (Option Nat)) (l:List α),avs=[sl c (l.map f)]∧l.length≤maxLen∧∀x∈l,P x:=by
 simp only[Typ,a4c.1 hs]at h;rcases h with rfl|⟨rows,cap,rfl,h1,h2,h3⟩
 ·exact⟨none,[],rfl,by simp,by simp⟩
 ·have key:∀rows:List (List AV),(∀r∈rows,r.length=E.sz e∧Typ E n e r)→∃l:List α,rows=l.map f∧∀x∈l,P x:=by
   intro rows
   induction rows with
   |nil=>intro _;exact⟨[],rfl,by simp⟩
   |cons r rs ih=>
    intro hh;obtain⟨x,hx,rfl⟩:=he r (hh r (by simp)).2;obtain⟨l,rfl,hl⟩:=ih (λr hr=>hh r (by simp[hr]));refine⟨x::l,rfl,?_⟩;intro y hy;simp only[List.mem_cons]at hy;rcases hy with rfl|hy
    ·exact hx
    ·exact hl y hy
  obtain⟨l,rfl,hl⟩:=key rows h3;exact⟨some (some cap),l,by rw[b9m],by simpa using Nat.le_trans h1 h2,hl⟩
theorem c3q{k:IntKind}(hk:c7y E t=some k)(h:Typ E (n+1) t avs):∃i,avs=[.int k i]∧(Lit.int k i).wf=true:=by simpa only[Typ,c15 hk]using h
theorem a8n(hk:c7y E t=some .i64)(h:Typ E (n+1) t avs):∃i:Int,avs=[.int .i64 i]∧ -9223372036854775808≤i∧i<9223372036854775808:=by
 obtain⟨i,h1,h2⟩:=c3q hk h;simp only[Lit.wf,Bool.and_eq_true,decide_eq_true_eq]at h2;have e1:IntKind.i64.min = -9223372036854775808:=by rfl
 have e2:IntKind.i64.max=9223372036854775807:=by rfl
 rw[e1,e2]at h2;exact⟨i,h1,h2.1,by omega⟩
theorem b9g(hb:d39 E t=true)(h:Typ E (n+1) t avs):∃s,avs=[.str s]∧s.length≤maxLen:=by simpa only[Typ,b6d hb]using h
def b3n(E:Env)(t:TypeId):Option (List TypeId):=match E.und t with|some (.struct fs)=>some (fs.toList.map (·.type))|_=>none
def c1y(E:Env)(n:Nat):List TypeId→List AV→Prop
 | [],avs=>avs=[]
 |t::ts,avs=>∃p r,avs=p++r∧Typ E n t p∧c1y E n ts r
theorem b0a{ts:List TypeId}(hf:b3n E t=some ts)(h:Typ E (n+1) t avs):c1y E n ts avs:=by
 unfold b3n at hf;split at hf
 case h_2=>cases hf
 rename_i fs hu;cases hf;simp only[Typ,hu]at h;obtain⟨parts,rfl,h1,h2⟩:=h;have key:∀(fs:List Field) (parts:List (List AV)),parts.length=fs.length→(∀(i:Nat) f p,fs[i]?=some f→parts[i]?=some p→p.length=E.sz f.type∧Typ E n f.type p)→c1y E n (fs.map (·.type)) parts.flatten:=by
  intro fs
  induction fs with
  |nil=>intro parts hl _;have:=List.length_eq_zero_iff.1 hl;subst this;rfl
  |cons f fs ih=>
   intro parts hl hh;cases parts with
   |nil=>simp at hl
   |cons p parts=>exact⟨p,parts.flatten,by simp,(hh 0 f p rfl rfl).2,ih parts (by simpa using hl) (λi f p hf hp=>hh (i+1) f p (by simpa using hf) (by simpa using hp))⟩
 exact key fs.toList parts h1 h2
theorem c3r{m:Nat}(hf:c9y E t=some (m,e))(h:Typ E (n+1) t avs):c1y E n (List.replicate m e) avs:=by
 unfold c9y at hf;split at hf
 case h_2=>cases hf
 rename_i m' e' hu;cases hf;simp only[Typ,hu]at h;obtain⟨parts,rfl,h1,h2⟩:=h;subst h1;clear hu
 induction parts with
 |nil=>rfl
 |cons p parts ih=>simp only[List.length_cons,List.replicate_succ];exact⟨p,parts.flatten,by simp,(h2 p (by simp)).2,ih (λq hq=>h2 q (by simp[hq]))⟩
theorem c0j{a:AV}(hg:b7b E t=some true)(h:d4c E n t a):∃avs,a = .agg avs∧Typ E n t avs:=by
 unfold d4c at h;unfold b7b at hg;cases hu:E.und t with
 |none=>rw[hu]at h;exact h.elim
 |some d=>rw[hu]at h hg;simp only[Option.map_some,Option.some.injEq]at hg;simpa[hg]using h
end
end Go.Ax
/- AxHeap: calls on, and loops over, heaps of a few known blocks: what is reached, renamed and put back, ar rewrite rules. -/
namespace Go.Ax
@[go_sem] theorem d3m(H:a08)(n:Nat)(acc:List Nat):a0h H n [] acc=acc.reverse:=by cases n<;>rfl
theorem c25(H:a08)(n:Nat)(b:Nat)(todo acc:List Nat):a0h H (n+1) (b::todo) acc=bif a1j acc b then a0h H n todo acc else a0h H n (a39 (a04 H b)++todo) (b::acc):=by rfl
@[go_sem] theorem d3n{n:Nat}(hn:(0<n)=True)(H:a08)(b:Nat)(todo acc:List Nat):a0h H n (b::todo) acc=bif a1j acc b then a0h H (n-1) todo acc else a0h H (n-1) (a39 (a04 H b)++todo) (b::acc):=by
 obtain⟨m,rfl⟩:∃m,n=m+1:=⟨n-1,by have:=of_eq_true hn;omega⟩
 exact c25 H m b todo acc
@[go_sem] theorem a06(x:Nat):a1j [] x=false:=by rfl
@[go_sem] theorem a03(a:Nat)(r:List Nat)(x:Nat):a1j (a::r) x=bif decide (a=x)then true else a1j r x:=by simp only[a1j,c3a,b9d]
@[go_sem] theorem a19:a2a []=true:=by rfl
@[go_sem] theorem a11(a:Nat)(r:List Nat):a2a (a::r)=(!(a1j r a)&&a2a r):=by rfl
@[go_sem] theorem d5i(k:Nat)(rows:List (List AV)):a39 (some (.row k rows))=rows.flatMap a0w:=by rfl
@[go_sem] theorem e0y(b:Nat):List.idxOf? b []=none:=by rfl
@[go_sem] theorem d8v(a:Nat)(l:List Nat)(b:Nat):List.idxOf? b (a::l)=bif decide (a=b)then some 0 else(List.idxOf? b l).map (·+ 1):=by rw[List.idxOf?_cons,b9d];cases decide (a=b)<;>rfl
@[go_sem] theorem e0p(σ:List Nat)(b:Nat):a36 σ b=σ.idxOf? b:=by rfl
@[go_sem] theorem d7d(σ:List Nat)(n j:Nat):a1g σ n j=bif decide (j<σ.length)then σ[j]? else some (n+(j-σ.length)):=by simp only[a1g,c63]
@[go_sem] theorem d3c(H:a08)(π:Nat→Option Nat):a0u H [] π=[]:=by rfl
@[go_sem] theorem d0k(H:a08)(b:Nat)(σ:List Nat)(π:Nat→Option Nat):a0u H (b::σ) π=(a04 H b).map (a0q π)::a0u H σ π:=by rfl
@[go_sem] theorem b7x(σ:List Nat)(n:Nat)(H1:a08)(b:Nat):a0s σ n H1 b []=[]:=by rfl
def d5n(σ:List Nat)(n:Nat)(H1:a08)(o:Option AObj):Option Nat→Option AObj
 |some j=>(a04 H1 j).map (a0q (a1g σ n))
 |none=>o
@[go_sem] theorem b7y(σ:List Nat)(n:Nat)(H1:a08)(b:Nat)(o:Option AObj)(r:a08):a0s σ n H1 b (o::r)=d5n σ n H1 o (σ.idxOf? b)::a0s σ n H1 (b+1) r:=by simp only[a0s];cases σ.idxOf? b<;>rfl
@[go_sem] theorem d3i(π:Nat→Option Nat)(k:Nat)(rows:List (List AV)):a0q π (.row k rows) = .row k (rows.map λr=>r.map (ren π)):=by rfl
/- renaming a value -/
section
variable (π:Nat→Option Nat)
def a4d(f:Nat→AV):Option Nat→AV|some b=>f b|none=>.junk
@[go_sem] theorem d5d(f:Nat→AV)(b:Nat):a4d f (some b)=f b:=by rfl
@[go_sem] theorem e0j(b i o:Nat):ren π (.ptr b i o)=a4d (λb=>.ptr b i o) (π b):=by simp only[ren];cases π b<;>rfl
@[go_sem] theorem d5c(b i o:Nat)(c:Option Nat):ren π (.slice b i o c)=a4d (λb=>.slice b i o c) (π b):=by simp only[ren];cases π b<;>rfl
@[go_sem] theorem e0k(k:IntKind)(n:Int):ren π (.int k n) = .int k n:=by rfl
@[go_sem] theorem d8d(b:Bool):ren π (.bool b) = .bool b:=by rfl
@[go_sem] theorem e0i(s:List UInt8):ren π (.str s) = .str s:=by rfl
@[go_sem] theorem c98:ren π .nilslice = .nilslice:=by rfl
@[go_sem] theorem d3h:ren π .nilptr = .nilptr:=by rfl
@[go_sem] theorem d5b(l:List AV):ren π (.tuple l) = .tuple (l.map (ren π)):=by simp only[ren,a7m]
@[go_sem] theorem d8c(f:Fn)(a b:List AV):ren π (.func f a b) = .func f (a.map (ren π)) (b.map (ren π)):=by simp only[ren,a7m]
@[go_sem] theorem a5o:c37 π []=[]:=by rfl
@[go_sem] theorem a4q(s:Nat)(v:AV)(r:Frm):c37 π ((s,v)::r)=(s,ren π v)::c37 π r:=by rfl
end
@[go_sem] theorem a7v(m:Nat)(σ:List Nat)(b:Nat):b8l m σ b=bif decide (b<m)then some b else(σ.idxOf? b).map (m + ·):=by simp only[b8l,c63]
theorem a09{m:Nat}{keep:List Nat}{F:Frm}{H:a08}:gcD m keep F H=bif a2a (a7w m (a5w keep F) H)&&(a7w m (a5w keep F) H).all (λb=>decide (m≤b))&&decide (m≤H.length)then
 some (c37 (b8l m (a7w m (a5w keep F) H)) (a5w keep F),gcH m (a7w m (a5w keep F) H) H)else none:=by
 have e:(λb=>Nat.ble m b)=λb=>decide (m≤b):=funext λb=>c64 m b;simp only[gcD,e,c64]
theorem a05(m:Nat)(F:Frm)(H:a08):a7w m F H=(a0h H 1000000 ((H.take m).flatMap a39++a0w (F.map (·.2))) []).filter λb=>decide (m≤b):=by have e:(λb=>Nat.ble m b)=λb=>decide (m≤b):=funext λb=>c64 m b;simp only[a7w,a3a,e]
@[go_sem] theorem b1l(m:Nat)(σ:List Nat)(H:a08):gcH m σ H=(H.take m).map (Option.map (a0q (b8l m σ)))++a0u H σ (b8l m σ):=by rfl
@[go_sem] theorem e18{α:Type}(p:α→Bool)(a:α)(l:List α):(a::l).filter p=bif p a then a::l.filter p else l.filter p:=by rw[List.filter_cons];cases p a<;>rfl
attribute [go_sem] List.reverse_cons List.reverse_nil List.filter_nil List.flatMap_cons List.flatMap_nil
theorem a0o(run:List AV→a08→Option (AV×a08))(args:List AV)(H:a08){σ:List Nat}(hσ:a0h H 1000000 (a0w args) []=σ)(hn:a2a σ=true)(hl:(σ.all λb=>decide (b<H.length))=true)
 {args':List AV}(ha:args.map (ren (a36 σ))=args'){H0:a08}(hH:a0u H σ (a36 σ)=H0){v:AV}{H1:a08}(hr:run args' H0=some (v,H1)) :
 a2s run args H=some (ren (a1g σ H.length) v,a0s σ H.length H1 0 H++(H1.drop σ.length).map (Option.map (a0q (a1g σ H.length))),σ):=by
 have e:(λb=>Nat.blt b H.length)=λb=>decide (b<H.length):=funext λb=>c63 b H.length;unfold a2s;simp only[a3a,hσ,hn,e,hl,Bool.and_self,cond_true,ha,hH,hr]
theorem a1t{E:Env}{draw:Bool}{call:CallF}{g:FuncId}{fs cs ar args:List AV}{H:a08}(hx:E.ext g=false)(hf:(E.fn g).isSome=true)(he:fs++ar++cs=args){v:AV}{H':a08}{σ:List Nat}
 (h:a2s (call g) args H=some (v,H',σ))(hl:H'.length=H.length):a0j E draw call (.func (.func g) fs cs) ar H=some (v,H',σ):=by
 have hb:Nat.ble H.length H.length=true:=by rw[Nat.ble_eq];exact Nat.le_refl _
 simp only[a0j,hx,hf,he,cond_true,cond_false,h,hl,hb,Bool.not_true,Bool.and_false]
theorem a1x{E:Env}{call:CallF}{g:FuncId}{fs cs ar args:List AV}{H:a08}(hx:E.ext g=false)(hf:(E.fn g).isSome=true)(he:fs++ar++cs=args){v:AV}{H':a08}{σ:List Nat}
 (h:a2s (call g) args H=some (v,H',σ)):a0j E false call (.func (.func g) fs cs) ar H=some (v,H',σ):=by
 simp only[a0j,hx,hf,he,cond_true,cond_false,h,Bool.false_and]
/- freezing -/
@[go_sem] theorem d18{α β:Type}(a:α)(f:α→β)(d:β):c9d (some a) f d=f a:=by rfl
@[go_sem] theorem d6t{m:Nat}{v:AV}{H:a08}:a5s false m v H=c9d (a4w m true (a8j (a04 H) m 12) v) (λv'=>some (v',(H.take m).map (Option.map (a0q (a1w m))))) (some (v,H)):=by simp only[a5s,cond_false];cases a4w m true (a8j (a04 H) m 12) v<;>rfl
section
variable {m:Nat}{top:Bool}{d:AV→Option AV}{h:FHeap}{n:Nat}
@[go_sem] theorem e14(k:IntKind)(i:Int):a4w m top d (.int k i)=some (.int k i):=by rfl
@[go_sem] theorem d8z(b:Bool):a4w m top d (.bool b)=some (.bool b):=by rfl
@[go_sem] theorem e13(s:List UInt8):a4w m top d (.str s)=some (.str s):=by rfl
@[go_sem] theorem c9m:a4w m top d .nilslice=some .nilslice:=by rfl
@[go_sem] theorem e15(l:List AV):a4w m top d (.agg l)=a17 (a7d m top d l) λl=>some (.agg l):=by simp only[a4w];cases a7d m top d l<;>rfl
@[go_sem] theorem d6m(l:List AV):a4w m top d (.tuple l)=a17 (a7d m top d l) λl=>some (.tuple l):=by simp only[a4w];cases a7d m top d l<;>rfl
@[go_sem] theorem d90:a7d m top d []=some []:=by rfl
@[go_sem] theorem d6o(v:AV)(l:List AV):a7d m top d (v::l)=a17 (a4w m top d v) λv=>a17 (a7d m top d l) λl=>some (v::l):=by simp only[a7d];cases a4w m top d v<;>cases a7d m top d l<;>rfl
@[go_sem] theorem d6n(b o l:Nat)(c:Option Nat):a4w m top d (.slice b o l c)=bif decide (b<m)then(bif top then some (.slice b o l c)else none)else d (.slice b o l c):=by simp only[a4w,d1w,c63]
@[go_sem] theorem d3w(hn:(0<n)=True)(b o l:Nat)(c:Option Nat):a8j h m n (.slice b o l c)=a17 (b1s (h b)) λkr=>bif decide (o+l≤kr.2.length)then a17 (c3b m (a8j h m (n-1)) ((kr.2.drop o).take l)) λrs=>some (.islice rs c)else none:=by
 obtain⟨n,rfl⟩:∃k,n=k+1:=⟨n-1,by have:=of_eq_true hn;omega⟩
 simp only[a8j,Nat.add_sub_cancel];cases hb:h b with
 |none=>simp only[hb];rfl
 |some ob=>cases ob<;>simp only[hb,b1s,a17,c64];rename_i kk rows;cases c3b m (a8j h m n) ((rows.drop o).take l)<;>rfl
end
/-! ### append -/
section
variable {E:Env}{h:FHeap}{n:Nat}
@[go_sem] theorem d2k(k b o l:Nat)(c:Option Nat):a3d h k (.slice b o l c)=a17 (b1s (h b)) λkr=>bif decide (kr.1=k)&&decide (o+l≤kr.2.length)then some ((kr.2.drop o).take l)else none:=by
 simp only[a3d];cases hb:h b with
 |none=>simp only[hb];rfl
 |some ob=>cases ob<;>simp only[hb,b1s,a17,b9d,c64]
def apT(E:Env)(st xt:TypeId):Option TypeId:=match E.und st,E.und xt with
 |some (.slice e),some dx=>bif a2r dx || !(E.zero e).isSome || !(Nat.blt 0 (E.sz e))then none else some e
 |_,_=>none
def apS(E:Env)(h:FHeap)(n:Nat)(elem:TypeId)(xs:List (List AV)):AV→Option (AV×Eff)
 |.nilslice=>match xs with
  | []=>some (.nilslice,.none)
  |y::ys=>bif a2g E elem (y::ys).length then some (.slice n 0 (y::ys).length none,.new (.row (E.sz elem) (y::ys)))else none
 |.islice rows cap=>bif rows.all (λr=>r.length==E.sz elem)then match xs with
  | []=>some (.islice rows cap,.none)
  |y::ys=>match cap with
   |some c=>bif Nat.blt c (rows.length+(y::ys).length)&&a2g E elem (rows.length+(y::ys).length)then
    some (.slice n 0 (rows.length+(y::ys).length) none,.new (.row (E.sz elem) (rows++(y::ys))))else none
   |none=>none
  else none
 |.slice b off len cap=>match h b with
  |some (.row kk rows)=>bif kk==E.sz elem&&Nat.ble (off+len) rows.length then
   match cap with
   |none=>bif a2g E elem (len+xs.length)&&xs.all (λr=>r.all AV.storable)then
    some (.slice n 0 (len+xs.length) none,.kill b (.row (E.sz elem) (bif Nat.beq (off+len) rows.length then rows.drop off++xs else(rows.drop off).take len++xs)))else none
   |some c=>bif Nat.ble (len+xs.length) c then
    bif Nat.ble (off+len+xs.length) rows.length&&xs.all (λr=>r.all AV.storable)then
     some (.slice b off (len+xs.length) (some c),.set b (.row (E.sz elem) (rows.take (off+len)++xs++rows.drop (off+len+xs.length))))else none
    else bif a2g E elem (len+xs.length)then
     some (.slice n 0 (len+xs.length) none,.new (.row (E.sz elem) ((rows.drop off).take len++xs)))else none
   else none
  |_=>none
 |_=>none
@[go_sem] theorem d7p(st xt:TypeId)(s x:AV):a48 E h n st xt s x=a17 (apT E st xt) λe=>a17 (a3d h (E.sz e) x) λxs=>apS E h n e xs s:=by
 unfold a48 apT;cases E.und st with
 |none=>rfl
 |some d=>cases E.und xt with
  |none=>cases d<;>rfl
  |some dx=>
   cases d<;>try rfl
   rename_i e;simp only;cases(a2r dx || !(E.zero e).isSome || !(Nat.blt 0 (E.sz e)))with
   |true=>rfl
   |false=>
    simp only[cond_false,a17];cases a3d h (E.sz e) x with
    |none=>rfl
    |some xs=>cases s<;>rfl
@[go_sem] theorem e1i(e:TypeId)(y:List AV)(ys:List (List AV)):apS E h n e (y::ys) .nilslice=bif a2g E e (y::ys).length then some (.slice n 0 (y::ys).length none,.new (.row (E.sz e) (y::ys)))else none:=by rfl
@[go_sem] theorem d9d(e:TypeId)(xs:List (List AV))(b o l:Nat):apS E h n e xs (.slice b o l none)=a17 (b1s (h b)) λkr=>
 bif decide (kr.1=E.sz e)then(bif decide (o+l=kr.2.length)then(bif a2g E e (l+xs.length)&&xs.all (λr=>r.all AV.storable)then some (.slice n 0 (l+xs.length) none,.kill b (.row (E.sz e) (kr.2.drop o++xs)))else none)
  else(bif decide (o+l≤kr.2.length)&&a2g E e (l+xs.length)&&xs.all (λr=>r.all AV.storable)then some (.slice n 0 (l+xs.length) none,.kill b (.row (E.sz e) ((kr.2.drop o).take l++xs)))else none))else none:=by
 simp only[apS];cases hb:h b with
 |none=>simp only[hb];rfl
 |some ob=>
  cases ob<;>simp only[hb,b1s,a17,b9d,c64];rename_i kk rows;have e1:Nat.beq (o+l) rows.length=decide (o+l=rows.length):=by rw[c3a,b9d]
  rw[e1];by_cases h1:o+l=rows.length
  ·rw[decide_eq_true h1,decide_eq_true (by omega:o+l≤rows.length)];cases decide (kk=E.sz e)<;>rfl
  ·rw[decide_eq_false h1];cases decide (kk=E.sz e)<;>cases decide (o+l≤rows.length)<;>rfl
@[go_sem] theorem d7j(e:TypeId)(xs:List (List AV))(b o l c:Nat):apS E h n e xs (.slice b o l (some c))=a17 (b1s (h b)) λkr=>
 bif decide (kr.1=E.sz e)&&decide (o+l≤kr.2.length)then(bif decide (l+xs.length≤c)then
  (bif decide (o+l+xs.length≤kr.2.length)&&xs.all (λr=>r.all AV.storable)then some (.slice b o (l+xs.length) (some c),.set b (.row (E.sz e) (kr.2.take (o+l)++xs++kr.2.drop (o+l+xs.length))))else none)
  else(bif a2g E e (l+xs.length)then some (.slice n 0 (l+xs.length) none,.new (.row (E.sz e) ((kr.2.drop o).take l++xs)))else none))else none:=by
 simp only[apS];cases hb:h b with
 |none=>simp only[hb];rfl
 |some ob=>cases ob<;>simp only[hb,b1s,a17,b9d,c64]
theorem b0k{e:TypeId}{k:Nat}(hk:k≤1000000000)(hb:E.bytes e≤1000):a2g E e k=true:=by
 unfold a2g;rw[decide_eq_true (by omega),Bool.true_and,decide_eq_true_eq]
 calc E.bytes e*(2*k+192)≤1000*(2*1000000000+192):=Nat.mul_le_mul hb (by omega)
  _≤281474976710656:=by decide
end
/- The length of a block's rows, by hand. -/
@[go_sem] theorem e1l(a:Nat):(a:Int).tmod 2=((a%2:Nat):Int):=by rfl
theorem c27(m b:Nat):a1w m b=bif decide (b<m)then some b else none:=by simp only[a1w,c63]
attribute [go_sem] c27
/-! ### bytes to a string -/
section
variable {E:Env}{h:FHeap}{s d:TypeId}
end
attribute [go_sem] List.length_replicate List.map_replicate List.length_append List.flatMap_append List.map_append
/-! ### calls that only read -/
def FlatO(o:Option AObj):Prop:=∀π,o.map (a0q π)=o
theorem FlatO.row{k:Nat}{rows:List (List AV)}(h:FlatR rows):FlatO (some (.row k rows)):=λπ=>by simp only[Option.map_some,a0q,a02 π h]
theorem c6s(f:Nat→Option AObj)(σ:List Nat)(j:Nat):a04 (σ.map f) j=(σ[j]?).bind f:=by simp only[a04,List.getElem?_map];cases σ[j]?<;>simp
theorem b1h{σ:List Nat}{n:Nat}{H:a08}(hf:∀b∈σ,FlatO (a04 H b)):∀(b:Nat) (H2:a08),(∀i,H2[i]?=H[b+i]?)→a0s σ n (σ.map (a04 H)) b H2=H2
 |_,[],_=>rfl
 |b,o::r,hh=>by
  have ih:=b1h hf (n:=n) (b+1) r (λi=>by
   have:=hh (i+1);rw[List.getElem?_cons_succ]at this;rw[this]
   congr 1
   omega)
  simp only[a0s,ih]
  congr 1
  cases hx:σ.idxOf? b with
  |none=>rfl
  |some j=>simp only;have hj:=a2z hx;have hm:b∈σ:=List.mem_of_getElem? hj;rw[c6s,hj];simp only[Option.bind_some];rw[hf b hm _];have h0:=hh 0;simp only[List.getElem?_cons_zero,Nat.add_zero]at h0;simp[a04,←h0]
theorem a6h{E:Env}{draw:Bool}{call:CallF}{g:FuncId}{fs cs ar args:List AV}{H:a08}{v:AV}(σ:List Nat)(hx:E.ext g=false)(hf:(E.fn g).isSome=true)(he:fs++ar++cs=args)
 (hσ:a0h H 1000000 (a0w args) []=σ)(hn:a2a σ=true)(hl:(σ.all λb=>decide (b<H.length))=true)(hfl:∀b∈σ,FlatO (a04 H b))
 {args':List AV}(ha:args.map (ren (a36 σ))=args'){H0:a08}(hH:σ.map (a04 H)=H0)(hr:call g args' H0=some (v,H0))(hv:a6k v=[]) :
 a0j E draw call (.func (.func g) fs cs) ar H=some (v,H,σ):=by
 have hs:a0u H σ (a36 σ)=H0:=by rw[←hH];unfold a0u;exact List.map_congr_left λb hb=>hfl b hb _
 have hc:=a0o (call g) args H hσ hn hl ha hs hr;have e1:ren (a1g σ H.length) v=v:=a8a _ v hv;have e2:a0s σ H.length H0 0 H=H:=by rw[←hH];exact b1h hfl 0 H (λi=>by rw[Nat.zero_add])
 have e3:H0.drop σ.length=[]:=by rw[←hH];simp
 rw[e1,e2,e3,List.map_nil,List.append_nil]at hc;exact a1t hx hf he hc rfl
end Go.Ax
/- AxMore: facts that all say 'true'; loops over any states; what a heap's values a0h. -/
namespace Go.Ax
/-! ### what is reached -/
end Go.Ax
/- AxSup: closed runs over facts of calls, a5u a given fact. -/
namespace Go.Ax
def b4s(E:Env)(x:Fact):Prop:=sem E [] x.g x.args []=some (x.v,[])
theorem b6f{E:Env}{g:FuncId}{args:List AV}{v:AV}:∀{M:List Fact},(∀x∈M,b4s E x)→d3e M g args=some v→sem E [] g args []=some (v,[])
 | [],_,h=>by simp[d3e]at h
 |x::r,hM,h=>by
  simp only[d3e,cond_eq_ite]at h;split at h
  ·rename_i hc;simp only[Bool.and_eq_true,Nat.beq_eq]at hc;cases h;have:=hM x (by simp);obtain⟨g',a',v'⟩:=x;simp only at hc this;have h1:=hc.1;have h2:=b3o _ _ hc.2;subst h1;subst h2;exact this
  ·exact b6f (λx hx=>hM x (by simp[hx])) h
theorem a67{E:Env}{c:CallF}(hc:CallF.le c (sem E []))(lf:Nat):CallF.le (a5v E c lf) (sem E []):=λg args H r h=>a7i (λ_ h=>by cases h) lf (b0j hc (Nat.le_refl lf) h)
theorem b32{E:Env}{M:List Fact}(hM:∀x∈M,b4s E x):∀n,CallF.le (c4v E M n) (sem E [])
 |0=>λg args H r h=>by simp[c4v]at h
 |n+1=>λg args H r h=>by
  have h:e0t M (a5v E (c4v E M n) (n+1)) g args H=some r:=h;unfold e0t at h;split at h
  ·split at h
   ·rename_i v hs;cases h;exact b6f hM hs
   ·exact a67 (b32 hM n) _ _ _ _ _ h
  ·exact a67 (b32 hM n) _ _ _ _ _ h
theorem c46{E:Env}{M:List Fact}(hM:∀x∈M,b4s E x)(n:Nat){g:Nat}{args:List AV}{v:AV}(h:a5v E (c4v E M n) n g args []=some (v,[])):b4s E ⟨g,args,v⟩:=a67 (b32 hM n) n _ _ _ _ h
theorem a86{E:Env}:∀x∈([]:List Fact),b4s E x:=by simp
theorem c45{E:Env}{x:Fact}{M:List Fact}(hx:b4s E x)(hM:∀x∈M,b4s E x):∀y∈x::M,b4s E y:=by
 intro y hy;simp only[List.mem_cons]at hy;rcases hy with rfl|hy
 ·exact hx
 ·exact hM y hy
end Go.Ax
/- AxGrow: grown slices; calls that read one block. -/
namespace Go.Ax
def grV(b:Nat):List (List AV)→AV|[]=>.nilslice|_::rs=>.slice b 0 (rs.length+1) none
def grH(k:Nat):List (List AV)→a08|[]=>[]|r::rs=>[some (.row k (r::rs))]
theorem a0a(b:Nat):grV b [] = .nilslice:=by rfl
theorem a0c(k:Nat):grH k []=[]:=by rfl
theorem a1q(b:Nat)(r:List AV)(rs:List (List AV)):grV b (r::rs) = .slice b 0 (rs.length+1) none:=by rfl
theorem a1k(k:Nat)(r:List AV)(rs:List (List AV)):grH k (r::rs)=[some (.row k (r::rs))]:=by rfl
theorem a2h(b:Nat)(l:List (List AV))(x:List AV):grV b (l++[x]) = .slice b 0 (l.length+1) none:=by cases l<;>simp[grV]
theorem a2i(k:Nat)(l:List (List AV))(x:List AV):grH k (l++[x])=[some (.row k (l++[x]))]:=by cases l<;>simp[grH]
theorem a0k(b:Nat){l:List (List AV)}(h:l≠[]):grV b l = .slice b 0 l.length none:=by cases l with|nil=>exact absurd rfl h|cons a r=>rfl
theorem a0n(k:Nat){l:List (List AV)}(h:l≠[]):grH k l=[some (.row k l)]:=by cases l with|nil=>exact absurd rfl h|cons a r=>rfl
theorem a7n{H:a08}{b:Nat}(hr:a39 (a04 H b)=[]):a0h H 1000000 [b] []=[b]:=by
 have e1:∀n,a0h H (n+2) [b] []=[b]:=by intro n;unfold a0h;simp only[a1j,cond_false,hr,List.append_nil];unfold a0h;rfl
 exact e1 999998
theorem a3c{E:Env}{draw:Bool}{call:CallF}{g:FuncId}{fs cs ar args:List AV}{H:a08}{v:AV}{b:Nat}{o:AObj}(hx:E.ext g=false)(hf:(E.fn g).isSome=true)(he:fs++ar++cs=args)
 (hb:a04 H b=some o)(ho:a39 (some o)=[])(hfl:FlatO (some o))(hargs:a0w args=[b]){args':List AV}(ha:args.map (ren (a36 [b]))=args')(hr:call g args' [some o]=some (v,[some o]))(hv:a6k v=[]) :
 a0j E draw call (.func (.func g) fs cs) ar H=some (v,H,[b]):=by
 have hlt:b<H.length:=by
  unfold a04 at hb;cases hh:H[b]? with
  |none=>rw[hh]at hb;cases hb
  |some x=>exact(List.getElem?_eq_some_iff.1 hh).1
 refine a6h [b] hx hf he (by rw[hargs];exact a7n (by rw[hb];exact ho)) rfl (by simpa using hlt) ?_ ha (by simp only[List.map_cons,List.map_nil,hb]) hr hv;intro c hc;simp only[List.mem_singleton]at hc;subst hc;rw[hb];exact hfl
theorem a0r{k:Nat}{rows:List (List AV)}(h:FlatR rows):a39 (some (.row k rows))=[]:=by simp only[a39];exact a01 h
theorem a0t{H:a08}{b:Nat}{o:AObj}(hb:a04 H b=some o):b<H.length:=by
 unfold a04 at hb;cases hh:H[b]? with
 |none=>rw[hh]at hb;cases hb
 |some x=>exact(List.getElem?_eq_some_iff.1 hh).1
theorem b2w(b n:Nat)(o:Option AObj)(ho:∀π,o.map (a0q π)=o):∀(s:Nat) (H:a08),s≤b→a0s [b] n [o] s H=H.set (b-s) o
 |s,[],_=>by simp[a0s]
 |s,x::H,hs=>by
  simp only[a0s];by_cases hsb:s=b
  ·subst hsb;have e:([s]:List Nat).idxOf? s=some 0:=by simp[List.idxOf?_cons]
   have hrest:∀(t:Nat) (H:a08),s<t→a0s [s] n [o] t H=H:=by
    intro t H
    induction H generalizing t with
    |nil=>intro _;rfl
    |cons y H ih=>
     intro ht;have e2:([s]:List Nat).idxOf? t=none:=by simp[List.idxOf?_cons];omega
     simp only[a0s,e2,ih (t+1) (by omega)]
   simp only[e,hrest (s+1) H (by omega),Nat.sub_self,List.set_cons_zero]
   congr 1
   exact ho _
  ·have e:([b]:List Nat).idxOf? s=none:=by simp[List.idxOf?_cons];omega
   have e2:b-s=(b-(s+1))+1:=by omega
   rw[e2,List.set_cons_succ];simp only[e,b2w b n o ho (s+1) H (by omega)]
theorem a14{E:Env}{draw:Bool}{call:CallF}{g:FuncId}{fs cs ar args:List AV}{H:a08}{v v':AV}{b:Nat}{o o':AObj}(hx:E.ext g=false)(hf:(E.fn g).isSome=true)(he:fs++ar++cs=args)
 (hb:a04 H b=some o)(ho:a39 (some o)=[])(hfl:FlatO (some o))(hargs:a0w args=[b]){args':List AV}(ha:args.map (ren (a36 [b]))=args')(hr:call g args' [some o]=some (v,[some o']))(hfl':FlatO (some o'))(hv:ren (a1g [b] H.length) v=v') :
 a0j E draw call (.func (.func g) fs cs) ar H=some (v',H.set b (some o'),[b]):=by
 have hlt:=a0t hb;have hc:=a0o (call g) args H (σ:=[b]) (by rw[hargs];exact a7n (by rw[hb];exact ho)) rfl (by simpa using hlt) ha (H0:=[some o]) (by simp only[a0u,List.map_cons,List.map_nil,hb];congr 1;exact hfl _) hr;rw[hv,b2w b _ _ hfl' 0 H (Nat.zero_le _)]at hc;simp only[Nat.sub_zero,List.drop_succ_cons,List.drop_zero,List.map_nil,List.append_nil,List.length_cons,List.length_nil]at hc;exact a1t hx hf he hc (by simp)
theorem c24(b o l:Nat)(c:Option Nat):ren (a36 [b]) (.slice b o l c) = .slice 0 o l c:=by simp[ren,a36]
/-! ### slices of slices -/
def inB(i:Int)(n:Nat):Bool:=decide (0≤i)&&decide (i≤(n:Int))
@[go_sem] theorem b6x(a n:Nat):inB (a:Int) n=decide (a≤n):=by unfold inB;rw[decide_eq_true (by omega),Bool.true_and,Bool.eq_iff_iff,decide_eq_true_eq,decide_eq_true_eq];omega
@[go_sem] theorem e4k(n:Nat):inB 0 n=true:=by simp[inB]
theorem a78{k:IntKind}{i:Int}{n d:Nat}:a1p (some (.int k i)) n d=bif inB i n then some i.toNat else none:=by rfl
attribute [go_sem] Option.map_some Option.map_none
section
variable {E:Env}{h:FHeap}{t:TypeId}
theorem b2b{x:AV}{lo hi mx:Option AV}(hs:slT E t=none)(hx:∀s,x≠ .str s)(hy:∀cs,x≠ .iptr cs:=by intro _ h;cases h):a1v E h t x lo hi mx=none:=by
 unfold a1v;unfold slT at hs;cases hu:E.und t with
 |none=>rfl
 |some d=>rw[hu]at hs;cases d<;>first|(cases hs;done)|(cases x<;>first|rfl|exact absurd rfl (hx _)|exact absurd rfl (hy _))
@[go_sem] theorem d2h{k k':IntKind}{i j:Int}:a1v E h t .nilslice none (some (.int k i)) (some (.int k' j))=a17 (slT E t) λe=>bif isT E e&&inB j 0&&inB i j.toNat then some .nilslice else none:=by
 cases hs:slT E t with
 |none=>exact b2b hs (λ_ h=>by cases h)
 |some e=>simp only[a1v,a4c.1 hs,a17,a78,isT];cases(E.und e).isSome<;>cases inB j 0<;>first|rfl|(simp only[cond_true,Bool.true_and];cases inB i j.toNat<;>rfl)
@[go_sem] theorem d44{b o n:Nat}{c:Option Nat}{k k':IntKind}{i j:Int}:a1v E h t (.slice b o n c) none (some (.int k i)) (some (.int k' j))=a17 (slT E t) λe=>a17 (b1s (h b)) λkr=>bif isT E e&&decide (kr.1=E.sz e)&&inB j (a25 n c)&&inB i j.toNat then some (.slice b o i.toNat (some j.toNat))else none:=by
 cases hs:slT E t with
 |none=>exact b2b hs (λ_ h=>by cases h)
 |some e=>
  simp only[a1v,a4c.1 hs,a17,a78,isT];cases hb:h b with
  |none=>cases(E.und e).isSome<;>rfl
  |some ob=>cases ob with
   |map=>cases(E.und e).isSome<;>rfl
   |siter=>cases(E.und e).isSome<;>rfl
   |uset=>cases(E.und e).isSome<;>rfl
   |miter=>cases(E.und e).isSome<;>rfl
   |yloop=>cases(E.und e).isSome<;>rfl
   |trow=>cases(E.und e).isSome<;>rfl
   |row kk rows=>simp only[b1s,b9d];cases(E.und e).isSome<;>cases decide (kk=E.sz e)<;>cases inB j (a25 n c)<;>first|rfl|(simp only[cond_true,Bool.true_and];cases inB i j.toNat<;>rfl)
@[go_sem] theorem d43{b o n:Nat}{c:Option Nat}{k:IntKind}{j:Int}:a1v E h t (.slice b o n c) none (some (.int k j)) none=a17 (slT E t) λe=>a17 (b1s (h b)) λkr=>bif isT E e&&decide (kr.1=E.sz e)&&inB j (a25 n c)then some (.slice b o j.toNat c)else none:=by
 cases hs:slT E t with
 |none=>exact b2b hs (λ_ h=>by cases h)
 |some e=>
  have hc:c.map (λx=>x-0)=c:=by cases c<;>rfl
  simp only[a1v,a4c.1 hs,a17,a78,isT];cases hb:h b with
  |none=>cases(E.und e).isSome<;>rfl
  |some ob=>cases ob with
   |map=>cases(E.und e).isSome<;>rfl
   |siter=>cases(E.und e).isSome<;>rfl
   |uset=>cases(E.und e).isSome<;>rfl
   |miter=>cases(E.und e).isSome<;>rfl
   |yloop=>cases(E.und e).isSome<;>rfl
   |trow=>cases(E.und e).isSome<;>rfl
   |row kk rows=>simp only[b1s,b9d];have e0:∀m,a1p (none:Option AV) m 0=some 0:=λ_=>rfl;cases(E.und e).isSome<;>cases decide (kk=E.sz e)<;>cases inB j (a25 n c)<;>first|rfl|(simp only[cond_true,Bool.true_and,e0,hc];rfl)
end
attribute [go_sem] Nat.le_refl Int.toNat_natCast
@[go_sem] theorem c8y{α β:Type}(f:α→β)(l:List α):(l.map f).take l.length=l.map f:=by rw[←List.length_map (f:=f),List.take_length]
attribute [go_sem] List.take_length
@[go_sem] theorem c5z(n c:Nat):a25 n (some c)=c:=by rfl
@[go_sem] theorem c60(n:Nat):a25 n none=n:=by rfl
end Go.Ax
/- AxMelt: calls over flat arguments that return a pointer to a block of their own. -/
namespace Go.Ax
@[go_sem] theorem d1y{v:AV}{H:a08}:a5s true 0 v H=d8o 0 v H:=by rfl
theorem c2o{m:Nat}(hm:(m=0)=False){v:AV}{H:a08}:a5s true m v H=some (v,H):=by
 cases m with
 |zero=>simp at hm
 |succ n=>rfl
attribute [go_sem] c2o
end Go.Ax
/- AxCpy: copy and clear, ar rewrite rules. -/
namespace Go.Ax
section
variable {E:Env}{draw:Bool}{call:CallF}{F:Frm}{H:a08}{h:FHeap}
@[go_sem] theorem d81(x:Operand)(t:TypeId):a1c E draw call F H (.call { callee:=.builtin .clear,args:=#[x],argTypes:=#[t] })=a17 (b05 E (a04 H) t (opv E F x)) λz=>bif z.2.fits H.length then some (z.1,a92 H z.2,⟨a12 (opv E F x),z.2.keys H.length⟩)else none:=a4l rfl rfl (by simp[a84])
def e5z(E:Env)(t:TypeId):Option Nat:=match E.und t with
 |some (.slice e)=>bif (E.und e).isSome then some (E.sz e)else none
 |_=>none
def e3k(E:Env)(t:TypeId):Option (Nat×List AV):=match E.und t with
 |some (.slice e)=>match E.zero e with|some z=>bif z.all AV.storable then some (E.sz e,z)else none|none=>none
 |_=>none
theorem b98(t:TypeId)(b o l:Nat)(c:Option Nat)(hl:(l=0)=False):b05 E h t (.slice b o l c)=a17 (e3k E t) λkz=>a17 (b1s (h b)) λkr=>
 bif decide (kr.1=kz.1)&&decide (o+l≤kr.2.length)then some (.tuple [],.set b (.row kr.1 (kr.2.take o++List.replicate l kz.2++kr.2.drop (o+l))))else none:=by
 have h0:Nat.beq l 0=false:=by rw[c3a,b9d];exact decide_eq_false (by rw[hl];exact id)
 unfold b05 e3k;cases E.und t with
 |none=>rfl
 |some d=>
  cases d<;>try rfl
  rename_i e;simp only[h0,cond_false];cases E.zero e with
  |none=>rfl
  |some z=>
   simp only[a17];cases hb:h b with
   |none=>cases z.all AV.storable<;>simp[hb,b1s]
   |some ob=>cases ob<;>cases hz:z.all AV.storable<;>simp[hb,b1s,b9d,c64]
attribute [go_sem] b98
end
section
variable {E:Env}{t:TypeId}{c:Bool}{x y:BitVec 64}
end
section
variable {E:Env}{h:FHeap}{t:TypeId}
@[go_sem] theorem d42{b o n:Nat}{c:Option Nat}{k:IntKind}{i:Int}:a1v E h t (.slice b o n c) (some (.int k i)) none none=a17 (slT E t) λe=>a17 (b1s (h b)) λkr=>bif isT E e&&decide (kr.1=E.sz e)&&inB i n then some (.slice b (o+i.toNat) (n-i.toNat) (c.map (·- i.toNat)))else none:=by
 cases hs:slT E t with
 |none=>exact b2b hs (λ_ h=>by cases h)
 |some e=>
  simp only[a1v,a4c.1 hs,a17,a78,isT];cases hb:h b with
  |none=>cases(E.und e).isSome<;>rfl
  |some ob=>cases ob with
   |map=>cases(E.und e).isSome<;>rfl
   |siter=>cases(E.und e).isSome<;>rfl
   |uset=>cases(E.und e).isSome<;>rfl
   |miter=>cases(E.und e).isSome<;>rfl
   |yloop=>cases(E.und e).isSome<;>rfl
   |trow=>cases(E.und e).isSome<;>rfl
   |row kk rows=>simp only[b1s,b9d];have e0:∀m,a1p (none:Option AV) m n=some n:=λ_=>rfl;cases(E.und e).isSome<;>cases decide (kk=E.sz e)<;>first|rfl|(simp only[cond_true,Bool.true_and,e0];cases inB i n<;>rfl)
end
end Go.Ax
/- AxFz: a loop that freezes at its end, as rewrite rules. -/
namespace Go.Ax
end Go.Ax
/- AxMl: a loop over a set of numbers: as a condition on its end. -/
namespace Go.Ax
section
variable {E:Env}{M:List Fact}{m N:Nat}{g:FuncId}{cur:Nat}{keep:List Nat}{id:Nat}{ops:Array Oper}{it nx:Nat}{ors:List Oper}{rest:Code}
end
end Go.Ax
/- AxSetS: sets of numbers, as rewrite rules. -/
namespace Go.Ax
section
variable {E:Env}{h:FHeap}{t:TypeId}{draw:Bool}{call:CallF}{F:Frm}{H:a08}
@[go_sem] theorem d5v:b5b E t=bif b6a E t then .uset []else .map [] [] [] 0:=by rfl
/-! lookup -/
/-! update -/
/-! delete -/
/-! length -/
/-! ranging -/
/-! frames and heaps -/
variable (π:Nat→Option Nat)
end
end Go.Ax
/- AxSs: strings: equality, sums, slices, as rules. -/
namespace Go.Ax
section
variable {E:Env}{h:FHeap}{t:TypeId}
@[go_sem] theorem d99(a b:List UInt8):d2g .eql a b=some (.bool (decide (a=b))):=by(show some (AV.bool (a==b))=_;congr 2;rw[Bool.eq_iff_iff];simp)
@[go_sem] theorem d98(a b:List UInt8):d2g .neq a b=some (.bool (!(decide (a=b)))):=by(show some (AV.bool (a != b))=_;congr 2;rw[Bool.eq_iff_iff];simp)
@[go_sem] theorem d9a(a b:List UInt8):d2g .add a b=bif decide (a.length+b.length≤4611686018427387904)then some (.str (a++b))else none:=by rfl
end
end Go.Ax
/- AxTwo: slices of slices that grow: one block of rows, a block for each that is not empty. -/
namespace Go.Ax
theorem b6y{H L:a08}{c:Nat}(h:(c<H.length)=True):a04 (H++L) c=a04 H c:=by unfold a04;rw[List.getElem?_append_left (of_eq_true h)]
theorem c81{H L:a08}(i:Nat):a04 (H++L) (H.length+i)=a04 L i:=by unfold a04;rw[List.getElem?_append_right (by omega)];congr 1;rw[Nat.add_sub_cancel_left]
section
variable {m:Nat}{F:Frm}{H H1:a08}{R:Nat→Prop}{π:Nat→Option Nat}{b k:Nat}{ids:Nat→Nat}{cp:Nat→Option Nat}{fo:List (List (List AV))}
end
section
variable {H:a08}{b k:Nat}{ids:Nat→Nat}{cp:Nat→Option Nat}{fo:List (List (List AV))}{j:Nat}{x:List AV}{o:Option AObj}
end
def fqE(E:Env)(g:FuncId)(m:Nat)(results:List ResultVar)(P:AV×a08→Prop):b4t:=λe F H=>match e with|.exit _=>False|_=>∃vs r,a1m E F H results=some vs∧a5s (E.thaw g) m (a7q vs) H=some r∧P r
theorem d0o{E:Env}{M:List Fact}{g:FuncId}{args:List AV}{H:a08}{code:Code}{N:Nat}{results:List ResultVar}{P:AV×a08→Prop}
 (hfn:E.fn g=some ⟨code,N,results⟩)(hno:∀y∈M,y.g≠g)(hN:Nat.ble args.length N=true){m:Nat}(hm:H.length=m)(h:Wp (cx E M m N g 0) code (a3l 0 args) H (fqE E g m results P))(hp:E.prim g args=none:=by rfl)(hz:E.zf g=false:=by rfl)(hw:E.raw g=false:=by rfl):∃r,P r∧sem E M g args H=some r:=by
 subst hm;obtain⟨e,F',H',h1,h2⟩:=b7j _ h;cases e with
 |normal=>obtain⟨vs,⟨v,H2⟩,h3,h4,h5⟩:=h2;exact⟨_,h5,c0m hfn hno hN h1 (λ_ h=>by cases h) h3 h4 hp hz hw⟩
 |ret=>obtain⟨vs,⟨v,H2⟩,h3,h4,h5⟩:=h2;exact⟨_,h5,c0m hfn hno hN h1 (λ_ h=>by cases h) h3 h4 hp hz hw⟩
 |exit id=>exact h2.elim
theorem a2v{E:Env}{g:FuncId}{m:Nat}{results:List ResultVar}{P:AV×a08→Prop}{e:AExit}{F:Frm}{H:a08}{r:AV×a08}(h:(bif e.fin then a17 (a1m E F H results) λvs=>a5s (E.thaw g) m (a7q vs) H else none)=some r)(h3:P r):fqE E g m results P e F H:=by
 have h:=fqb h;cases e with
 |exit i=>exact h
 |_=>obtain⟨vs,h1,h2⟩:=h;exact⟨vs,r,h1,h2,h3⟩
theorem svE{E:Env}{M:List Fact}{g:FuncId}{args:List AV}{H:a08}{P:AV×a08→Prop}(f:Func)(h:Wp (cx E M H.length f.ntmps g 0) (f.body.getD .skip) (a3l 0 args) H (fqE E g H.length f.results.toList P))(hfn:E.fn g=some ⟨f.body.getD .skip,f.ntmps,f.results.toList⟩:=by kernel_rfl)
 (hno:(M.all λy=>!Nat.beq y.g g)=true:=by rfl)(hN:Nat.ble args.length f.ntmps=true:=by rfl)(hp:E.prim g args=none:=by rfl)(hz:E.zf g=false:=by rfl)(hw:E.raw g=false:=by rfl):∃r,P r∧sem E M g args H=some r:=d0o hfn (λy hy e=>by
 have:=List.all_eq_true.1 hno y hy;rw[e]at this;simp at this) hN rfl h hp hz hw
end Go.Ax
/- AxCall3: calls over two blocks, which they may write. -/
namespace Go.Ax
theorem a7o{σ:List Nat}{n:Nat}{H1:a08}:∀(s:Nat) (H:a08) (i:Nat),(a0s σ n H1 s H)[i]?=(H[i]?).map λo=>match σ.idxOf? (s+i)with|some j=>(a04 H1 j).map (a0q (a1g σ n))|none=>o
 |s,[],i=>by simp[a0s]
 |s,o::H,0=>by simp[a0s];rfl
 |s,o::H,i+1=>by simp only[a0s,List.getElem?_cons_succ,a7o (s+1) H i];rw[show s+1+i=s+(i+1) by omega]
theorem b7u{H:a08}{a b:Nat}(hab:a≠b)(ha:a39 (a04 H a)=[])(hb:a39 (a04 H b)=[]):a0h H 1000000 [a,b] []=[a,b]:=by
 have e:a0h H (999996+4) [a,b] []=[a,b]:=by
  unfold a0h;simp only[a1j,cond_false,ha,List.nil_append];unfold a0h;have h1:a1j [a] b=false:=by
   cases hc:a1j [a] b with
   |false=>rfl
   |true=>exact absurd (by simpa using a52.1 hc) (Ne.symm hab)
  simp only[h1,cond_false,hb,List.nil_append];unfold a0h;rfl
 exact e
end Go.Ax
/- AxSl3: an immutable slice cut with its capacity. -/
namespace Go.Ax
section
variable {E:Env}{h:FHeap}{t:TypeId}
end
end Go.Ax
/- AxTab: a table of rows of words in blocks, wherever they lie; heads of loops and calls over it. -/
namespace Go.Ax
section
variable {H H1:a08}{R:Nat→Prop}{π:Nat→Option Nat}{a b q:Nat}{ids:Nat→Nat}{w:Nat}{fo:List (List (BitVec 64))}{fr:Int}
end
/-! ### calls, wherever the blocks lie -/
end Go.Ax
/- AxGw: a flat block and a slice of rows that grow together. -/
namespace Go.Ax
section
variable {H H1:a08}{R:Nat→Prop}{π:Nat→Option Nat}{w b k:Nat}{ids:Nat→Nat}{cp:Nat→Option Nat}{ws:List (List AV)}{fo:List (List (List AV))}
end
end Go.Ax
/- AxTwX: a slice of growing slices beside flat blocks: a loop's head. -/
namespace Go.Ax
section
variable {H:a08}{b k:Nat}{ids:Nat→Nat}{cp:Nat→Option Nat}{fo:List (List (List AV))}
end
end Go.Ax
/- AxTab2: a table that a call has been given: heads of loops and calls that write it. -/
namespace Go.Ax
section
variable {H H1:a08}{a b q:Nat}{ids:Nat→Nat}{w:Nat}{fo:List (List (BitVec 64))}{fr:Int}
end
end Go.Ax
/- AxLow: a loop's head over blocks that all stood before the call and refer to nothing. -/
namespace Go.Ax
end Go.Ax
/- AxRf: loops over functions, as conditions on their ends; their rounds. -/
namespace Go.Ax
theorem c8e{E:Env}{draw:Bool}{call:CallF}{g:FuncId}{fs cs as args:List AV}{H:a08}(hx:E.ext g=false)(hf:(E.fn g).isSome=true)(he:fs++as++cs=args){v:AV}{H':a08}{σ:List Nat}
 (h:a2s (call g) args H=some (v,H',σ))(hl:H.length≤H'.length):a0j E draw call (.func (.func g) fs cs) as H=some (v,H',σ):=by
 have hb:Nat.ble H.length H'.length=true:=by rw[Nat.ble_eq];exact hl
 simp only[a0j,hx,hf,he,h,hb,cond_true,cond_false,Bool.not_true,Bool.and_false]
end Go.Ax
/- AxTwY: a slice of slices: a new slice in an empty place; the numbers that a loop's head gives to the first blocks. -/
namespace Go.Ax
section
variable {H H1:a08}{b k:Nat}{ids:Nat→Nat}{cp:Nat→Option Nat}{fo:List (List (List AV))}
end
end Go.Ax
/- AxTwZ: a slice of slices: a new slice behind the others, a slice that is b08. -/
namespace Go.Ax
section
variable {H H1:a08}{b k:Nat}{ids:Nat→Nat}{cp:Nat→Option Nat}{fo:List (List (List AV))}
end
theorem a6z{E:Env}{d:Bool}{call:CallF}{g:FuncId}{fs cs ar args:List AV}{H L:a08}{v:AV}(hx:E.ext g=false)(hf:(E.fn g).isSome=true)(he:fs++ar++cs=args)(hargs:a0w args=[])(hr:call g args []=some (v,L)) :
 a0j E d call (.func (.func g) fs cs) ar H=some (ren (a1g [] H.length) v,H++L.map (Option.map (a0q (a1g [] H.length))),[]):=by
 have hc:=a0o (call g) args H (σ:=[]) (by rw[hargs];rfl) rfl rfl (args':=args) (a6a _ hargs) (H0:=[]) rfl hr;rw[a8r]at hc;simp only[List.length_nil,List.drop_zero]at hc;exact c8e hx hf he hc (by simp)
section
variable {L:a08}{b k:Nat}{ids:Nat→Nat}{cp:Nat→Option Nat}{fo:List (List (List AV))}
end
section
variable {H2:a08}{b k:Nat}{ids:Nat→Nat}{cp:Nat→Option Nat}{fo:List (List (List AV))}
end
end Go.Ax
/- AxSupH: closed runs over facts of calls that are given memory, or give memory of their own. -/
namespace Go.Ax
structure FactH where
 g:FuncId
 args:List AV
 H0:a08
 v:AV
 H:a08
def b9a(E:Env)(x:FactH):Prop:=sem E [] x.g x.args x.H0=some (x.v,x.H)
def b5t:a08→a08→Bool
 | [],[]=>true
 |some (.row n a)::r,some (.row m b)::s=>Nat.beq n m&&eqR a b&&b5t r s
 |_,_=>false
theorem c5r:∀(a b:a08),b5t a b=true→a=b
 | [],b,h=>by
  cases b with
  |nil=>rfl
  |cons x r=>simp[b5t]at h
 |some (.row n a)::r,some (.row m b)::s,h=>by simp only[b5t,Bool.and_eq_true,Nat.beq_eq]at h;obtain⟨⟨h1,h2⟩,h3⟩:=h;rw[h1,c5p _ _ h2,c5r r s h3]
 |some (.row n a)::r,[],h=>by simp[b5t]at h
 |some (.row n a)::r,none::s,h=>by simp[b5t]at h
 |some (.row n a)::r,some (.map _ _ _ _)::s,h=>by simp[b5t]at h
 |some (.row n a)::r,some (.siter _ _)::s,h=>by simp[b5t]at h
 |some (.row n a)::r,some (.uset _)::s,h=>by simp[b5t]at h
 |some (.row n a)::r,some (.miter _ _ _)::s,h=>by simp[b5t]at h
 |some (.row n a)::r,some (.yloop _ _ _)::s,h=>by simp[b5t]at h
 |some (.row n a)::r,some (.trow _ _ _ _)::s,h=>by simp[b5t]at h
 |none::r,b,h=>by simp[b5t]at h
 |some (.map _ _ _ _)::r,b,h=>by simp[b5t]at h
 |some (.siter _ _)::r,b,h=>by simp[b5t]at h
 |some (.uset _)::r,b,h=>by simp[b5t]at h
 |some (.miter _ _ _)::r,b,h=>by simp[b5t]at h
 |some (.yloop _ _ _)::r,b,h=>by simp[b5t]at h
 |some (.trow _ _ _ _)::r,b,h=>by simp[b5t]at h
def c20:List FactH→FuncId→List AV→a08→Option (AV×a08)
 | [],_,_,_=>none
 |x::r,g,args,H=>bif Nat.beq x.g g&&(eqL x.args args&&b5t x.H0 H)then some (x.v,x.H)else c20 r g args H
theorem b2q{E:Env}{g:FuncId}{args:List AV}{H:a08}{v:AV×a08}:∀{M:List FactH},(∀x∈M,b9a E x)→c20 M g args H=some v→sem E [] g args H=some v
 | [],_,h=>by simp[c20]at h
 |x::r,hM,h=>by
  simp only[c20,cond_eq_ite]at h;split at h
  ·rename_i hc;simp only[Bool.and_eq_true,Nat.beq_eq]at hc;cases h;have:=hM x (by simp);obtain⟨g',a',H0',v',H'⟩:=x;simp only at hc this;have h1:=hc.1;have h2:=b3o _ _ hc.2.1;have h3:=c5r _ _ hc.2.2;subst h1;subst h2;subst h3;exact this
  ·exact b2q (λx hx=>hM x (by simp[hx])) h
def d1c(M:List Fact)(L:List FactH)(call:FuncId→List AV→a08→Option (AV×a08))(g:FuncId)(args:List AV)(H:a08):Option (AV×a08):=
 match H with
 | []=>match d3e M g args with
  |some v=>some (v,[])
  |none=>match c20 L g args []with
   |some r=>some r
   |none=>call g args []
 |b::r=>match c20 L g args (b::r)with
  |some r=>some r
  |none=>call g args (b::r)
def b85(E:Env)(M:List Fact)(L:List FactH):Nat→FuncId→List AV→a08→Option (AV×a08)
 |0,_,_,_=>none
 |n+1,f,args,H=>d1c M L (a5v E (b85 E M L n) (n+1)) f args H
theorem b0r{E:Env}{M:List Fact}{L:List FactH}(hM:∀x∈M,b4s E x)(hL:∀x∈L,b9a E x):∀n,CallF.le (b85 E M L n) (sem E [])
 |0=>λg args H r h=>by simp[b85]at h
 |n+1=>λg args H r h=>by
  have h:d1c M L (a5v E (b85 E M L n) (n+1)) g args H=some r:=h;unfold d1c at h;split at h
  ·split at h
   ·rename_i v hs;cases h;exact b6f hM hs
   ·split at h
    ·rename_i v hs;cases h;exact b2q hL hs
    ·exact a67 (b0r hM hL n) _ _ _ _ _ h
  ·split at h
   ·rename_i v hs;cases h;exact b2q hL hs
   ·exact a67 (b0r hM hL n) _ _ _ _ _ h
theorem b9o{E:Env}{M:List Fact}{L:List FactH}(hM:∀x∈M,b4s E x)(hL:∀x∈L,b9a E x)(n:Nat){g:Nat}{args:List AV}{H0:a08}{v:AV}{H:a08}(h:a5v E (b85 E M L n) n g args H0=some (v,H)):b9a E ⟨g,args,H0,v,H⟩:=a67 (b0r hM hL n) n _ _ _ _ h
theorem b2p{E:Env}:∀x∈([]:List FactH),b9a E x:=by simp
end Go.Ax
/- AxLog: the look at a drawn region's log, the order first. -/
namespace Go.Ax
end Go.Ax
namespace Go.Ax
end Go.Ax
/- AxTab3: calls that are given a table (and a list in a block). -/
namespace Go.Ax
end Go.Ax
/- AxTab4: a table that is being b9v; heads of the loops that make and fill it. -/
namespace Go.Ax
section
variable {H H1:a08}{R:Nat→Prop}{π:Nat→Option Nat}{a b:Nat}{ids:Nat→Nat}{w n i:Nat}
end
end Go.Ax
/- AxTab5: a table's number in another cell; a table that is given back. -/
namespace Go.Ax
section
variable {H:a08}{a b q:Nat}{ids:Nat→Nat}{w:Nat}{fo:List (List (BitVec 64))}{fr:Int}
end
end Go.Ax
/- AxMapS: maps by keys that have an encoding; maps of growing slices of numbers. -/
namespace Go.Ax
section
variable {α:Type}[DecidableEq α]{E:Env}{t kt et:TypeId}{enc:α→AV}
end
/-! ### the values that a key has collected -/
end Go.Ax
/- AxMapT: a map of growing slices of numbers, wherever its blocks lie. -/
namespace Go.Ax
section
variable {α:Type}[DecidableEq α]{enc:α→AV}{H H1:a08}{R:Nat→Prop}{π:Nat→Option Nat}{c b:Nat}{ids:Nat→Nat}{es:List (α×List Nat)}
end
section
variable {α:Type}[DecidableEq α]{E:Env}{t kt et:TypeId}{enc:α→AV}
end
section
variable {α:Type}[DecidableEq α]{enc:α→AV}{H:a08}{c b:Nat}{ids:Nat→Nat}{es:List (α×List Nat)}
end
end Go.Ax
