/- AxTop: a call from outside: a43 old block is immutable. -/
import Derived.Test.YtmbmjfjagololaaGreatDoorAxC
import Derived.Below
import Derived.IntWalk
import Derived.KernelRfl
import GoSem.ClaimChange
import GoSem.ClaimJoined
import Derived.RowKit
import Derived.ChangeSame
import Derived.Carry
set_option linter.unusedSimpArgs false
set_option linter.unusedVariables false
namespace Go.Ax
open Go.RowKit
def Old(w:World):Nat→Prop:=λc=>c<w.heap.size
def Holds(E:Env)(w:World):Prop:=∀g cs,E.G g=some cs→g<w.heap.size∧GAt (Old w) w cs g
theorem d3m{E:Env}{f:FuncId}{run:List AV→a09→Option (AV×a09)}(hfy:f≠yId)(hf:a4q E f run){args:List AV}{v:AV}{H':a09}(h:run args []=some (v,H')){w:World}(hG:Holds E w){cargs:List Value}(ha:VRels (Old w) w noP args cargs) :
 Calls E.P f cargs.toArray w λen w'=>∃c I' ρ',en = .returned c∧Below w.heap.size w w'∧VRel I' w' ρ' v c:=by
 have rel:HRel E.G (Old w) (λ_=>False) noP (a05 []) w:=by
  refine⟨?_,?_,?_,λc hc=>hc,λc hc=>hc.elim,λ_ _ h=>h,hG⟩
  ·intro b o hb;simp[a05]at hb
  ·intro b b' m m' hb;simp[a05]at hb
  ·intro b m hb;simp[noP]at hb
 have h0:=hf args [] v H' h (Old w) (λ_=>False) noP w cargs rel (λ_ _=>rfl) ha;rw[a3o hfy]at h0;refine Calls.mono h0 ?_
 rintro en w' ⟨c,I',ρ',rfl,hret,hv⟩
 exact⟨c,I',ρ',rfl,⟨hret.ext.os,hret.ext.tape,hret.ext.output,hret.ext.size,λk hk=>hret.ext.keep k (.inl hk)⟩,hv⟩
theorem c6b{E:Env}{f:FuncId}{run:List AV→a09→Option (AV×a09)}(hfy:f≠yId)(hf:a4q E f run){args:List AV}{H':a09}(h:run args []=some (.bool true,H')){w:World}(hG:Holds E w){cargs:List Value}(ha:VRels (Old w) w noP args cargs) :
 Calls E.P f cargs.toArray w λen w'=>en = .returned (.bool true)∧Below w.heap.size w w':=by
 refine(d3m hfy hf h hG ha).mono ?_
 rintro en w' ⟨c,I',ρ',rfl,hb,hv⟩
 simp only[VRel]at hv;subst hv;exact⟨rfl,hb⟩
end Go.Ax
/- AxSem: what a call comes to, a5r fuel for the calls: a function 'sem', closed under running a body over itself. No condition. -/
namespace Go.Ax
abbrev CallF:=FuncId→List AV→a09→Option (AV×a09)
def CallF.le(c c':CallF):Prop:=∀g a H r,c g a H=some r→c' g a H=some r
theorem a7t{r r':List AV→a09→Option (AV×a09)}(h:∀a H x,r a H=some x→r' a H=some x){args:List AV}{H:a09}{x:AV×a09×List Nat}
 (hc:a2u r args H=some x):a2u r' args H=some x:=by
 unfold a2u at hc⊢;simp only at hc⊢;rw[cond_eq_ite]at hc⊢;split at hc
 case isFalse=>cases hc
 rename_i h1;rw[if_pos h1];split at hc
 case h_2=>cases hc
 rename_i v H1 hr;rw[h _ _ _ hr];exact hc
theorem b7z{r r':List AV→a09→Option (AV×a09)}(h:∀a H x,r a H=some x→r' a H=some x){args:List AV}{H:a09}{x:AV×a09×List Nat}
 (hc:a8q r args H=some x):a8q r' args H=some x:=by
 unfold a8q at hc⊢;split at hc
 case h_2=>cases hc
 rename_i args' h1;split at hc
 case h_2=>cases hc
 rename_i v H1 hr;rw[h _ _ _ hr];exact hc
section
variable {E:Env}{draw:Bool}{N:Nat}{c c':CallF}(hc:CallF.le c c')
include hc
theorem c23{f:AV}{args:List AV}{H:a09}{x:AV×a09×List Nat}(h:a0n E draw c f args H=some x):a0n E draw c' f args H=some x:=by
 unfold a0n at h⊢;split at h
 case h_3=>cases h
 case h_2=>
  split at h
  case h_2=>cases h
  rename_i v H' σ hr;rw[a7t (λa H x=>hc yId a H x) hr];exact h
 rename_i g fs cs;rw[cond_eq_ite]at h⊢;split at h
 ·rename_i h1;rw[if_pos h1];rw[cond_eq_ite]at h⊢;split at h
  ·rename_i h2;rw[if_pos h2];exact b7z (λa H x=>hc g a H x) h
  ·rename_i h2;rw[if_neg h2];exact h
 ·rename_i h1;rw[if_neg h1];rw[cond_eq_ite]at h⊢;split at h
  case isFalse=>cases h
  rename_i h2;rw[if_pos h2];split at h
  case h_2=>cases h
  rename_i v H' σ hr;rw[a7t (λa H x=>hc g a H x) hr];exact h
theorem b98{F:Frm}{H:a09}{op:Op}{x:AV×a09×LogE}(h:a1d E draw c F H op=some x):a1d E draw c' F H op=some x:=by
 unfold a1d at h⊢;split at h
 ·split at h
  case h_2=>cases h
  rename_i v H' σ hr;rw[c23 hc hr];exact h
 ·exact h
theorem b2f{R:Type}{all:List Oper}{k k':Frm→a09→Option R}(hk:∀F H r,k F H=some r→k' F H=some r):∀(ops:List Oper) (log:List LogE) (F:Frm) (H:a09) {r:R},
 a28 E draw N c all ops log F H k=some r→a28 E draw N c' all ops log F H k'=some r:=by
 intro ops
 induction ops with
 |nil=>
  intro log F H r h;unfold a28 at h⊢;rw[cond_eq_ite]at h⊢;split at h
  case isFalse=>cases h
  rename_i h1;rw[if_pos h1];exact hk _ _ _ h
 |cons o rest ih=>
  have step:∀(log:List LogE) (F F':Frm) (H:a09) (op:Op) (r:R),(match a1d E draw c F H op with
   |some (v,H',l)=>a28 E draw N c all rest (l::log) (a3j F' o.dst v) H' k
   |none=>none)=some r→(match a1d E draw c' F H op with
   |some (v,H',l)=>a28 E draw N c' all rest (l::log) (a3j F' o.dst v) H' k'
   |none=>none)=some r:=by
   intro log F F' H op r h;split at h
   case h_2=>cases h
   rename_i v H' l hs;rw[b98 hc hs];exact ih _ _ _ h
  intro log F H r h;unfold a28 at h⊢;rw[cond_eq_ite]at h⊢;split at h
  case isFalse=>cases h
  rename_i h1;rw[if_pos h1];split at h
  ·exact step _ _ _ _ _ _ h
  ·rename_i j want hg;split at h
   ·cases h
   ·rename_i d hd;split at h
    ·rename_i b hb;rw[cond_eq_ite]at h⊢;split at h
     ·rename_i hbt;rw[if_pos hbt];rw[cond_eq_ite]at h⊢;split at h
      ·rename_i hw;rw[if_pos hw];exact step _ _ _ _ _ _ h
      ·rename_i hw;rw[if_neg hw];exact ih _ _ _ h
     ·rename_i hbt;rw[if_neg hbt];rw[cond_eq_ite]at h⊢;split at h
      ·rename_i hw;rw[if_pos hw];exact ih _ _ _ h
      ·rename_i hw;rw[if_neg hw];exact step _ _ _ _ _ _ h
    ·exact ih _ _ _ h
    ·cases h
omit hc in
theorem b50{m0:Nat}{keep:List Nat}{R:Type}{b b':Frm→a09→(AExit→Frm→a09→Option R)→Option R}
 (hb:∀F H (k k':AExit→Frm→a09→Option R),(∀e F H r,k e F H=some r→k' e F H=some r)→∀r,b F H k=some r→b' F H k'=some r):∀(n n':Nat),n≤n'→∀(F:Frm) (H:a09) (k k':AExit→Frm→a09→Option R),(∀e F H r,k e F H=some r→k' e F H=some r)→∀{r:R},
 b1k m0 keep b n F H k=some r→b1k m0 keep b' n' F H k'=some r
 |0,_,_,F,H,k,k',_,r,h=>by simp[b1k]at h
 |n+1,0,hn,F,H,k,k',_,r,h=>by omega
 |n+1,n'+1,hn,F,H,k,k',hk,r,h=>by
  unfold b1k at h⊢;simp only at h⊢;rw[cond_eq_ite]at h⊢;split at h
  case isFalse=>cases h
  rename_i h1;rw[if_pos h1];refine hb _ _ _ _ ?_ r h;intro e F H r h;cases e with
  |normal=>exact b50 hb n n' (by omega) F H k k' hk h
  |exit id=>exact hk _ _ _ _ h
  |ret=>exact hk _ _ _ _ h
omit hc in
theorem b2g{m0 it:Nat}{keep:List Nat}{ks acc:List Int}{b b':Frm→a09→(AExit→Frm→a09→Option R3)→Option R3}
 (hb:∀F H (k k':AExit→Frm→a09→Option R3),(∀e F H r,k e F H=some r→k' e F H=some r)→∀r,b F H k=some r→b' F H k'=some r){a:Option Int}{F:Frm}{H:a09}{x:R3}(h:b16 m0 it keep ks acc b a F H=some x):b16 m0 it keep ks acc b' a F H=some x:=by
 unfold b16 at h⊢;split at h
 case h_2=>cases h
 rename_i F1 H1 hg;split at h
 case h_2=>cases h
 rename_i H2 ha;exact hb _ _ _ _ (λ_ _ _ _ h=>h) _ h
omit hc in
theorem b2j{m0 it:Nat}{keep:List Nat}{ks:List Int}{b b':Frm→a09→(AExit→Frm→a09→Option R3)→Option R3}
 (hb:∀F H (k k':AExit→Frm→a09→Option R3),(∀e F H r,k e F H=some r→k' e F H=some r)→∀r,b F H k=some r→b' F H k'=some r):∀{o acc:List Int} {F:Frm} {H:a09} {x:R3},a4y m0 it keep ks b acc o F H=some x→a4y m0 it keep ks b' acc o F H=some x
 | [],acc,F,H,x,h=>by
  unfold a4y at h⊢;split at h
  ·cases h
  ·rename_i e F' H' hne hr;rw[b2g hb hr];cases e with
   |normal=>exact(hne rfl).elim
   |exit id=>exact h
   |ret=>exact h
  ·cases h
 |i::o,acc,F,H,x,h=>by
  unfold a4y at h⊢;split at h
  case h_2=>cases h
  rename_i F' H' hr;rw[b2g hb hr];exact b2j hb h
omit hc in
theorem c1j{m0 it:Nat}{keep:List Nat}{R:Type}{b b':Frm→a09→(AExit→Frm→a09→Option R3)→Option R3}
 (hb:∀F H (k k':AExit→Frm→a09→Option R3),(∀e F H r,k e F H=some r→k' e F H=some r)→∀r,b F H k=some r→b' F H k'=some r){F:Frm}{H:a09}{k k':AExit→Frm→a09→Option R}(hk:∀e F H r,k e F H=some r→k' e F H=some r){r:R}
 (h:c1k m0 it keep b F H k=some r):c1k m0 it keep b' F H k'=some r:=by
 unfold c1k at h⊢;split at h
 case h_2=>cases h
 rename_i ks hks;split at h
 case h_2=>cases h
 rename_i r0 rs hmap;rw[cond_eq_ite]at h;split at h
 case isFalse=>cases h
 rename_i hall;have hm:(b4w ks).map (λo=>a4y m0 it keep ks b' [] o F H)=some r0::rs:=by
  rw[←hmap];refine List.map_congr_left λo ho=>?_;have hm:=List.mem_map_of_mem (f:=λo=>a4y m0 it keep ks b [] o F H) ho;rw[hmap]at hm;have he:a4y m0 it keep ks b [] o F H=some r0:=by
   rcases List.mem_cons.1 hm with h|h
   ·exact h
   ·exact c07 (List.all_eq_true.1 hall _ h)
  rw[he];exact b2j hb he
 rw[hm];simp only[hall,cond_true];exact hk _ _ _ _ h
theorem a5e{m0 lf lf':Nat}(hl:lf≤lf'){keep:Nat→List Nat}:∀(code:Code) {R:Type} (cur:Nat) (F:Frm) (H:a09) (k k':AExit→Frm→a09→Option R),(∀e F H r,k e F H=some r→k' e F H=some r)→∀{r:R},
 a3r E m0 N keep c lf cur code F H k=some r→a3r E m0 N keep c' lf' cur code F H k'=some r:=by
 intro code
 induction code with
 |skip=>intro R cur F H k k' hk r h;unfold a3r at h⊢;exact hk _ _ _ _ h
 |label l=>intro R cur F H k k' hk r h;unfold a3r at h⊢;exact hk _ _ _ _ h
 |exit id=>intro R cur F H k k' hk r h;unfold a3r at h⊢;exact hk _ _ _ _ h
 |ret=>intro R cur F H k k' hk r h;unfold a3r at h⊢;exact hk _ _ _ _ h
 |region id ops draw=>
  intro R cur F H k k' hk r h;unfold a3r at h⊢;cases hn:c6r ops.toList with
  |none=>rw[hn]at h;exact b2f hc (λF H r h=>hk _ _ _ _ h) _ _ _ _ h
  |some x=>
   obtain⟨it,nx,rest⟩:=x;rw[hn]at h;simp only[cond_eq_ite]at h⊢;split at h
   case isTrue=>cases h
   rename_i h1;rw[if_neg h1];split at h
   case h_2=>cases h
   rename_i v H' hx;exact b2f hc (λF H r h=>hk _ _ _ _ h) _ _ _ _ h
 |seq x y ihx ihy=>
  intro R cur F H k k' hk r h;unfold a3r at h⊢;refine ihx _ _ _ _ _ ?_ h;intro e F H r h;cases e with
  |normal=>exact ihy _ _ _ _ _ hk h
  |exit id=>exact hk _ _ _ _ h
  |ret=>exact hk _ _ _ _ h
 |cond x y z ihy ihz=>
  intro R cur F H k k' hk r h;unfold a3r at h⊢;split at h
  case h_2=>cases h
  rename_i t ht;simp only[cond_eq_ite]at h⊢;split at h
  ·rename_i h1;rw[if_pos h1];exact ihy _ _ _ _ _ hk h
  ·rename_i h1;rw[if_neg h1];exact ihz _ _ _ _ _ hk h
 |block id b ih=>
  intro R cur F H k k' hk r h;unfold a3r at h⊢;refine ih _ _ _ _ _ ?_ h;intro e F H r h;cases e with
  |normal=>exact hk _ _ _ _ h
  |exit id'=>
   simp only[cond_eq_ite]at h⊢;split at h
   ·rename_i h1;rw[if_pos h1];exact hk _ _ _ _ h
   ·rename_i h1;rw[if_neg h1];exact hk _ _ _ _ h
  |ret=>exact hk _ _ _ _ h
 |loop b ih=>
  intro R cur F H k k' hk r h;unfold a3r at h⊢;cases hn:a9g b with
  |some it=>rw[hn]at h;exact c1j (λF H k k' hk r h=>ih _ F H k k' hk h) hk h
  |none=>
  rw[hn]at h;dsimp only at h⊢;refine b50 (λF H k k' hk r h=>ih _ F H k k' hk h) _ _ hl F H _ _ ?_ h;intro e F H r h;rw[cond_eq_ite]at h⊢;split at h
  ·rename_i h1;rw[if_pos h1];exact hk _ _ _ _ h
  ·rename_i h1;rw[if_neg h1];exact hk _ _ _ _ h
 |scope b ih=>intro R cur F H k k' hk r h;unfold a3r at h⊢;exact ih _ _ _ _ _ hk h
 |rangeFunc f ps as b=>
  intro R cur F H k k' hk r h;unfold a3r at h⊢;split at h
  case h_2=>cases h
  rename_i g fs cs y _ _;rw[cond_eq_ite]at h⊢;split at h
  case isFalse=>cases h
  rename_i h1;rw[if_pos h1];split at h
  case h_2=>cases h
  rename_i v H2 σ hr;rw[a7t (λa H x=>hc g a H x) hr];dsimp only;split at h
  ·exact hk _ _ _ _ h
  ·exact hk _ _ _ _ h
  ·exact hk _ _ _ _ h
  ·cases h
 |_=>intro R cur F H k k' hk r h;simp[a3r]at h
theorem b66{lf lf':Nat}(hl:lf≤lf'){args:List AV}{H:a09}{r:AV×a09}(h:a80 E c lf args H=some r):a80 E c' lf' args H=some r:=by
 unfold a80 at h⊢;split at h
 case h_2=>cases h
 rename_i b vs;split at h
 case h_2=>cases h
 rename_i y F hb;split at h
 case h_2=>cases h
 rename_i ri hri;rw[cond_eq_ite]at h⊢;split at h
 case isFalse=>cases h
 rename_i h1;rw[if_pos h1];refine a5e hc hl _ _ _ _ _ _ ?_ h;intro e F H r h;cases e with
 |normal=>
  dsimp only at h⊢;split at h
  case h_2=>cases h
  rename_i H1 hy;exact a5e hc hl _ _ _ _ _ _ (λ_ _ _ _ h=>h) h
 |exit id=>exact h
 |ret=>exact h
theorem c5p{m0 lf lf':Nat}(hl:lf≤lf'){keep:Nat→List Nat}:∀(code:Code) {R:Type} (cur:Nat) (F:Frm) (H:a09) (k k':AExit→Frm→a09→Option R),(∀e F H r,k e F H=some r→k' e F H=some r)→∀{r:R},
 d1u E m0 N keep c lf cur code F H k=some r→d1u E m0 N keep c' lf' cur code F H k'=some r:=by
 intro code
 induction code with
 |seq x y ihx ihy=>
  intro R cur F H k k' hk r h;unfold d1u at h⊢;refine ihx _ _ _ _ _ ?_ h;intro e F H r h;cases e with
  |normal=>exact ihy _ _ _ _ _ hk h
  |exit id=>exact hk _ _ _ _ h
  |ret=>exact hk _ _ _ _ h
 |_=>intro R cur F H k k' hk r h;exact a5e hc hl _ _ _ _ _ _ hk h
theorem c5q{m0 lf lf' j:Nat}(hl:lf≤lf'){keep:Nat→List Nat}:∀(n:Nat) (code:Code) {R:Type} (cur:Nat) (F:Frm) (H:a09) (k k':AExit→Frm→a09→Option R),(∀e F H r,k e F H=some r→k' e F H=some r)→∀{r:R},
 d6m E m0 N keep c lf j n cur code F H k=some r→d6m E m0 N keep c' lf' j n cur code F H k'=some r:=by
 intro n
 induction n with
 |zero=>intro code R cur F H k k' hk r h;exact a5e hc hl _ _ _ _ _ _ hk h
 |succ n ih=>
  intro code;cases code with
  |seq x y=>
   intro R cur F H k k' hk r h;refine a5e hc hl x cur F H _ _ ?_ h;intro e F H r h;cases e with
   |normal=>exact ih _ _ _ _ _ _ hk h
   |exit id=>exact hk _ _ _ _ h
   |ret=>exact hk _ _ _ _ h
  |_=>intro R cur F H k k' hk r h;exact a5e hc hl _ _ _ _ _ _ hk h
theorem b0b{lf lf':Nat}(hl:lf≤lf'){g:FuncId}{args:List AV}{H:a09}{r:AV×a09}(h:a62 E c lf g args H=some r):a62 E c' lf' g args H=some r:=by
 unfold a62 at h⊢;split at h
 ·exact h
 split at h
 ·skip
  rw[cond_eq_ite]at h⊢;split at h
  case isFalse=>cases h
  rename_i h1;rw[if_pos h1];exact b66 hc hl h
 rename_i i hi;rw[cond_eq_ite]at h⊢;split at h
 case isFalse=>cases h
 rename_i h1;rw[if_pos h1];unfold d8e at h⊢;cases hz:E.zf g with
 |true=>
  rw[hz,cond_true]at h;rw[cond_true];cases hzn:E.zn g with
  |zero=>rw[hzn]at h;exact c5p hc hl _ _ _ _ _ _ (λ_ _ _ _ h=>h) h
  |succ n=>rw[hzn]at h;exact c5q hc hl _ _ _ _ _ _ _ (λ_ _ _ _ h=>h) h
 |false=>rw[hz,cond_false]at h;rw[cond_false];exact a5e hc hl _ _ _ _ _ _ (λ_ _ _ _ h=>h) h
end
inductive Der(E:Env)(M:List Fact):FuncId→List AV→a09→AV×a09→Prop
 |run (g:FuncId) (args:List AV) (H:a09) (r:AV×a09) (c:CallF) (lf:Nat) (hc:∀g a H r,c g a H=some r→Der E M g a H r)
  (hno:∀x∈M,x.g≠g) (h:a62 E c lf g args H=some r):Der E M g args H r
 |fact (x:Fact) (hx:x∈M) (hfirst:∀y∈M,y.g=x.g→y.args=x.args→y.v=x.v):Der E M x.g x.args [] (x.v,[])
open Classical in
noncomputable def d81(c c':CallF):CallF:=λg a H=>match c g a H with|some r=>some r|none=>c' g a H
theorem Der.one{E:Env}{M:List Fact}{g:FuncId}{args:List AV}{H:a09}{r r':AV×a09}(h:Der E M g args H r)(h':Der E M g args H r'):r=r':=by
 induction h generalizing r' with
 |run g args H r c lf hc hno h ih=>
  cases h' with
  |run _ _ _ _ c' lf' hc' hno' h'=>
   have l1:CallF.le c (d81 c c'):=by intro g a H r h;simp[d81,h]
   have l2:CallF.le c' (d81 c c'):=by
    intro g a H r h;unfold d81;cases hcc:c g a H with
    |none=>exact h
    |some s=>exact congrArg some (ih g a H s hcc (hc' g a H r h))
   have e1:=b0b l1 (Nat.le_max_left lf lf') h;have e2:=b0b l2 (Nat.le_max_right lf lf') h';exact z9o (e1.symm.trans e2)
  |fact x hx=>exact absurd rfl (hno x hx)
 |fact x hx hf=>
  generalize hg:x.g=g at h';generalize ha:x.args=args at h';generalize hH:([]:a09)=H at h';cases h' with
  |run _ _ _ _ c' lf' hc' hno' h'=>exact absurd hg (hno' x hx)
  |fact y hy hf'=>rw[hf y hy hg.symm ha.symm]
theorem Der.ok{E:Env}(ok:EnvOk E)(hdr:DrOk E){M:List Fact}(hM:∀x∈M,b01 E x){g:FuncId}{args:List AV}{H:a09}{r:AV×a09}(h:Der E M g args H r) :
 a4q E g (λa H'=>open Classical in if a=args∧H'=H then some r else none):=by
 induction h with
 |run g args H r c lf hc hno h ih=>
  have hcall:a3e E c:=by intro g a H v H' hr;have:=ih g a H (v,H') hr;exact this a H v H' (by simp)
  intro a H' v H'' hr;dsimp only at hr;split at hr
  ·rename_i hh;obtain⟨rfl,rfl⟩:=hh;cases hr;exact c6k ok hdr hcall lf g a H' v H'' h
  ·cases hr
 |fact x hx hf=>
  intro a H' v H'' hr;dsimp only at hr;split at hr
  ·rename_i hh;obtain⟨rfl,rfl⟩:=hh;cases hr;intro I K ρ w cargs h1 h2 h3;exact hM x hx I K ρ w cargs h1 h2 h3
  ·cases hr
open Classical in
noncomputable def sem(E:Env)(M:List Fact):CallF:=λg args H=>if h:∃r,Der E M g args H r then some h.choose else none
section
variable {E:Env}{M:List Fact}
theorem b9e{g:FuncId}{args:List AV}{H:a09}{r:AV×a09}:sem E M g args H=some r↔Der E M g args H r:=by
 unfold sem;constructor
 ·intro h;split at h
  ·rename_i hh;cases h;exact hh.choose_spec
  ·cases h
 ·intro h;have hh:∃r,Der E M g args H r:=⟨r,h⟩
  rw[dif_pos hh];exact congrArg some (Der.one hh.choose_spec h)
theorem a8l{g:FuncId}{args:List AV}{H:a09}{r:AV×a09}(hno:∀x∈M,x.g≠g)(lf:Nat)(h:a62 E (sem E M) lf g args H=some r):sem E M g args H=some r:=b9e.2 (.run g args H r (sem E M) lf (λ_ _ _ _ h=>b9e.1 h) hno h)
theorem sem_ok(ok:EnvOk E)(hdr:DrOk E)(hM:∀x∈M,b01 E x):a3e E (sem E M):=by intro g args H v H' h;exact(Der.ok ok hdr hM (b9e.1 h)) args H v H' (by simp)
end
end Go.Ax
/- AxEv: runs of statements in direct style: what a statement comes to, for a43 loop fuel that is great enough. -/
namespace Go.Ax
def c8f{α β:Type}(x:Option α)(f:α→β)(d:β):β:=match x with|some a=>f a|none=>d
def a17{α β:Type}(x:Option α)(f:α→Option β):Option β:=match x with|some a=>f a|none=>none
@[go_sem] theorem d2n{α β:Type}(a:α)(f:α→Option β):a17 (some a) f=f a:=by rfl
@[congr] theorem d0b{α β:Type}{x y:Option α}{f:α→Option β}(h:x=y):a17 x f=a17 y f:=by rw[h]
def a8c(E:Env)(draw:Bool)(N:Nat)(call:CallF)(all:List Oper):List Oper→List LogE→Frm→a09→Option (Frm×a09×List LogE)
 | [],log,F,H=>some (F,H,log)
 |o::rest,log,F,H=>
  bif a5u N o.dst then
   match o.guard with
   |none=>a17 (a1d E draw call F H o.op) λx=>a8c E draw N call all rest (x.2.2::log) (a3j F o.dst x.1) x.2.1
   |some (j,want)=>match a32 all j with
    |none=>none
    |some d=>match a2l F d with
     |.bool b=>bif b then
      (bif want then a17 (a1d E draw call (a3j F (some d) (.bool true)) H o.op) λx=>a8c E draw N call all rest (x.2.2::log) (a3j (a3j F (some d) (.bool true)) o.dst x.1) x.2.1
      else a8c E draw N call all rest (⟨[],[]⟩::log) (a3j (a3j F (some d) (.bool true)) o.dst (.tuple [])) H)
      else
       (bif want then a8c E draw N call all rest (⟨[],[]⟩::log) (a3j (a3j F (some d) (.bool false)) o.dst (.tuple [])) H
       else a17 (a1d E draw call (a3j F (some d) (.bool false)) H o.op) λx=>a8c E draw N call all rest (x.2.2::log) (a3j (a3j F (some d) (.bool false)) o.dst x.1) x.2.1)
     |.tuple []=>a8c E draw N call all rest (⟨[],[]⟩::log) (a3j F o.dst (.tuple [])) H
     |_=>none
  else none
theorem a8m{E:Env}{draw:Bool}{N:Nat}{call:CallF}{all:List Oper}{R:Type}{k:Frm→a09→Option R}:∀(ops:List Oper) (log:List LogE) (F:Frm) (H:a09),
 a28 E draw N call all ops log F H k=(match a8c E draw N call all ops log F H with|some (F',H',log')=>(bif !draw||logOk all log'.length log' then k F' H' else none)|none=>none):=by
 intro ops
 induction ops with
 |nil=>intro log F H;rfl
 |cons o rest ih=>
  intro log F H;have step:∀(F1 F2:Frm),(match a1d E draw call F1 H o.op with
   |some (v,H',l)=>a28 E draw N call all rest (l::log) (a3j F2 o.dst v) H' k
   |none=>none)=(match a17 (a1d E draw call F1 H o.op) λx=>a8c E draw N call all rest (x.2.2::log) (a3j F2 o.dst x.1) x.2.1 with|some (F',H',log')=>(bif !draw||logOk all log'.length log' then k F' H' else none)|none=>none):=by
   intro F1 F2;cases a1d E draw call F1 H o.op with
   |none=>rfl
   |some x=>exact ih _ _ _
  obtain⟨dst,op,ty,pos,after,guard⟩:=o;unfold a28 a8c;cases hd:a5u N dst with
  |false=>rfl
  |true=>
   cases guard with
   |none=>exact step F F
   |some g=>
    obtain⟨j,want⟩:=g;simp only[cond_true];cases hs:a32 all j with
    |none=>rfl
    |some d=>
     simp only;cases hv:a2l F d with
     |bool b=>cases b<;>cases want<;>simp only[cond_true,cond_false]<;>first|exact step _ _|exact ih _ _ _
     |tuple vs=>cases vs with
      |nil=>exact ih _ _ _
      |cons a r=>rfl
     |_=>rfl
structure Cx where
 E:Env
 M:List Fact
 m0:Nat
 N:Nat
 keep:Nat→List Nat
 cur:Nat
def Ev(x:Cx)(c:Code)(F:Frm)(H:a09)(r:AExit×Frm×a09):Prop:=∃n0,∀lf,n0≤lf→∀(R:Type) (k:AExit→Frm→a09→Option R),a3r x.E x.m0 x.N x.keep (sem x.E x.M) lf x.cur c F H k=k r.1 r.2.1 r.2.2
section
variable {x:Cx}{F F1:Frm}{H H1:a09}{r:AExit×Frm×a09}
theorem Ev.skip:Ev x .skip F H (.normal,F,H):=⟨0,λ_ _ _ _=>rfl⟩
theorem Ev.label{l}:Ev x (.label l) F H (.normal,F,H):=⟨0,λ_ _ _ _=>rfl⟩
theorem Ev.leave{id}:Ev x (.exit id) F H (.exit id,F,H):=⟨0,λ_ _ _ _=>rfl⟩
theorem Ev.ret:Ev x .ret F H (.ret,F,H):=⟨0,λ_ _ _ _=>rfl⟩
theorem d0d{E:Env}{draw:Bool}{N:Nat}{call:CallF}{all ops:List Oper}{log:List LogE}{F:Frm}{H:a09}{r:Frm×a09×List LogE}(h:a8c E draw N call all ops log F H=some r):c6r ops=none:=by
 unfold c6r;split
 ·rfl
 ·rename_i o rest;split
  ·rename_i it nx h1 h2 h3;obtain⟨d,op,ty,pos,after,guard⟩:=o;simp only at h1 h2 h3;subst h1 h2 h3;unfold a8c at h;have hs:a1d E draw call F H (.next (.tmp it) false)=none:=by
    have:aop E H.length (a05 H) (.next (.tmp it) false) (opv E F)=none:=by show b0y (a05 H) (opv E F (.tmp it)) false=none;unfold b0y;split<;>rfl
    unfold a1d;simp only[this]
   rw[cond_eq_ite]at h;split at h
   ·simp only[hs,a17]at h;cases h
   ·cases h
  ·rfl
theorem Ev.region{id ops draw}{log:List LogE}(h:a8c x.E draw x.N (sem x.E x.M) ops.toList ops.toList [] F H=some (F1,H1,log))(hl:(!draw||logOk ops.toList log.length log)=true):Ev x (.region id ops draw) F H (.normal,F1,H1):=⟨0,λ_ _ R k=>by simp only[a3r,d0d h,a8m,h,hl,cond_true]⟩
theorem Ev.seq{a b}(h:Ev x a F H (.normal,F1,H1))(h2:Ev x b F1 H1 r):Ev x (.seq a b) F H r:=by obtain⟨n,h⟩:=h;obtain⟨m,h2⟩:=h2;exact⟨max n m,λlf hl R k=>by simp only[a3r];rw[h lf (by omega)];exact h2 lf (by omega) R k⟩
theorem Ev.seq_ret{a b}(h:Ev x a F H (.ret,F1,H1)):Ev x (.seq a b) F H (.ret,F1,H1):=by obtain⟨n,h⟩:=h;exact⟨n,λlf hl R k=>by simp only[a3r];rw[h lf hl]⟩
theorem Ev.seq_exit{a b id}(h:Ev x a F H (.exit id,F1,H1)):Ev x (.seq a b) F H (.exit id,F1,H1):=by obtain⟨n,h⟩:=h;exact⟨n,λlf hl R k=>by simp only[a3r];rw[h lf hl]⟩
theorem Ev.cond_t{c a b}(hc:opv x.E F c = .bool true)(h:Ev x a F H r):Ev x (.cond c a b) F H r:=by obtain⟨n,h⟩:=h;exact⟨n,λlf hl R k=>by simp only[a3r,hc,cond_true];exact h lf hl R k⟩
theorem Ev.cond_f{c a b}(hc:opv x.E F c = .bool false)(h:Ev x b F H r):Ev x (.cond c a b) F H r:=by obtain⟨n,h⟩:=h;exact⟨n,λlf hl R k=>by simp only[a3r,hc,cond_false];exact h lf hl R k⟩
theorem Ev.block{id b}(h:Ev { x with cur:=id } b F H (.normal,F1,H1)):Ev x (.block id b) F H (.normal,F1,H1):=by obtain⟨n,h⟩:=h;exact⟨n,λlf hl R k=>by simp only[a3r];rw[h lf hl]⟩
theorem Ev.block_ret{id b}(h:Ev { x with cur:=id } b F H (.ret,F1,H1)):Ev x (.block id b) F H (.ret,F1,H1):=by obtain⟨n,h⟩:=h;exact⟨n,λlf hl R k=>by simp only[a3r];rw[h lf hl]⟩
theorem Ev.block_exit{id b}(h:Ev { x with cur:=id } b F H (.exit id,F1,H1)):Ev x (.block id b) F H (.normal,F1,H1):=by obtain⟨n,h⟩:=h;exact⟨n,λlf hl R k=>by simp only[a3r];rw[h lf hl];simp⟩
theorem Ev.block_on{id id' b}(h:Ev { x with cur:=id } b F H (.exit id',F1,H1))(hne:(id'==id)=false):Ev x (.block id b) F H (.exit id',F1,H1):=by obtain⟨n,h⟩:=h;exact⟨n,λlf hl R k=>by simp only[a3r];rw[h lf hl];simp only[hne,cond_false]⟩
theorem Ev.scope{b}(h:Ev x b F H r):Ev x (.scope b) F H r:=by obtain⟨n,h⟩:=h;exact⟨n,λlf hl R k=>by simp only[a3r];exact h lf hl R k⟩
def EvL(x:Cx)(b:Code)(F:Frm)(H:a09)(r:AExit×Frm×a09):Prop:=
 ∃n0,∀lf,n0≤lf→∀n,n0≤n→∀(R:Type) (k:AExit→Frm→a09→Option R),
  b1k x.m0 (x.keep x.cur) (λF H k=>a3r x.E x.m0 x.N x.keep (sem x.E x.M) lf x.cur b F H k) n F H k=k r.1 r.2.1 r.2.2
theorem Ev.loop{b}(hx:a9g b=none)(hz:d2v (x.keep x.cur)=false)(h:EvL x b F H r):Ev x (.loop b) F H r:=by obtain⟨n,h⟩:=h;exact⟨n,λlf hl R k=>by simp only[a3r,hx,hz,cond_false];exact h lf hl lf hl R k⟩
theorem c4i{m0:Nat}{keep:List Nat}(hg:gcD m0 keep F H=some (F1,H1)) :
 (a2c (a7p m0 (a5s keep F) H)&&(a7p m0 (a5s keep F) H).all (λb=>Nat.ble m0 b)&&Nat.ble m0 H.length)=true∧c2f (b89 m0 (a7p m0 (a5s keep F) H)) (a5s keep F)=F1∧gcH m0 (a7p m0 (a5s keep F) H) H=H1:=by
 unfold gcD at hg;simp only[cond_eq_ite]at hg;split at hg
 case isFalse=>cases hg
 rename_i hc;cases hg;exact⟨hc,rfl,rfl⟩
theorem EvL.leave{b:Code}{F2:Frm}{H2:a09}{e:AExit}(hg:gcD x.m0 (x.keep x.cur) F H=some (F1,H1))(h:Ev x b F1 H1 (e,F2,H2))(he:e≠ .normal):EvL x b F H (e,F2,H2):=by
 obtain⟨n0,h⟩:=h;refine⟨n0+1,λlf hl n hn R k=>?_⟩;obtain⟨n,rfl⟩:∃l,n=l+1:=⟨n-1,by omega⟩
 obtain⟨h1,h2,h3⟩:=c4i hg;simp only[b1k,h1,h2,h3,cond_true];rw[h lf (by omega)];cases e with
 |normal=>exact absurd rfl he
 |exit id=>rfl
 |ret=>rfl
theorem EvL.again{b:Code}{F2:Frm}{H2:a09}(hg:gcD x.m0 (x.keep x.cur) F H=some (F1,H1))(h:Ev x b F1 H1 (.normal,F2,H2))(h':EvL x b F2 H2 r):EvL x b F H r:=by
 obtain⟨n0,h⟩:=h;obtain⟨m0,h'⟩:=h';refine⟨max n0 m0+1,λlf hl n hn R k=>?_⟩;obtain⟨n,rfl⟩:∃l,n=l+1:=⟨n-1,by omega⟩
 obtain⟨h1,h2,h3⟩:=c4i hg;simp only[b1k,h1,h2,h3,cond_true];rw[h lf (by omega)];exact h' lf (by omega) n (by omega) R k
theorem c04{E:Env}{M:List Fact}{g:FuncId}{args:List AV}{H:a09}{code:Code}{N:Nat}{results:List ResultVar}{e:AExit}{F':Frm}{H':a09}{vs:List AV}{v:AV}{H2:a09}
 (hfn:E.fn g=some ⟨code,N,results⟩)(hno:∀y∈M,y.g≠g)(hN:Nat.ble args.length N=true)(h:Ev ⟨E,M,H.length,N,E.keep g,0⟩ code (a3k 0 args) H (e,F',H'))(he:∀id,e≠ .exit id)
 (hr:a1p E F' H' results=some vs)(hfin:a5p (E.thaw g) H.length (a7i vs) H'=some (v,H2))(hp:E.prim g args=none)(hz:E.zf g=false)(hw:E.raw g=false):sem E M g args H=some (v,H2):=by
 obtain⟨n,h⟩:=h;refine a8l hno n ?_;unfold a62;have hph:primH E g args H=none:=b4u hp;rw[hph,hfn];simp only;rw[hN];simp only[cond_true];unfold d8e;rw[hz];simp only[cond_false];refine(h n (Nat.le_refl _) _ _).trans ?_;cases e with
 |exit id=>exact absurd rfl (he id)
 |normal=>simp only[hr,c8s,hw];exact hfin
 |ret=>simp only[hr,c8s,hw];exact hfin
end
end Go.Ax
/- AxSimp: the evaluator's steps as rewrite rules. -/
namespace Go.Ax
section
variable {E:Env}{draw:Bool}{N:Nat}{call:CallF}{all rest:List Oper}{log:List LogE}{F:Frm}{H:a09}
@[go_sem] theorem d7u(s:Nat)(v:AV)(r:Frm):a2l ((s,v)::r) s=v:=by simp only[a2l,c2i,cond_eq_ite,beq_self_eq_true,if_true]
@[go_sem] theorem d5j{s t:Nat}(h:(s=t)=False)(v:AV)(r:Frm):a2l ((s,v)::r) t=a2l r t:=by have:¬s=t:=λe=>h▸e;simp only[a2l,c2i,cond_eq_ite,beq_iff_eq,if_neg this]
@[go_sem] theorem d41(d:Nat)(v:AV):a3j F (some d) v=(d,v)::F:=by rfl
@[go_sem] theorem d42(v:AV):a3j F none v=F:=by rfl
@[go_sem] theorem d9k(t:Nat):opv E F (.tmp t)=a2l F t:=by rfl
@[go_sem] theorem d7g(f:Nat):opv E F (.func f) = .func (.func f) [] []:=by rfl
@[go_sem] theorem d7h(b:Bool):opv E F (.const (.bool b)) = .bool b:=by rfl
@[go_sem] theorem d9m(k:IntKind)(n:Int):opv E F (.const (.int k n)) = .int k n:=by rfl
@[go_sem] theorem c8e:opv E F (.const (.slice none 0 0)) = .nilslice:=by rfl
@[go_sem] theorem d9l(s:ByteArray):opv E F (.const (.string s)) = .str s.data.toList:=by rfl
@[go_sem] theorem d73:a8c E draw N call all [] log F H=some (F,H,log):=by rfl
@[go_sem] theorem d2x(d:Nat):a5u N (some d)=decide (d<N):=by rw[a5u,Bool.eq_iff_iff];simp[Nat.blt_eq]
@[go_sem] theorem d2y:a5u N none=true:=by rfl
theorem c9z(dst:Option Nat)(op:Op)(ty:TypeId)(pos:String)(after:Array Edge) :
 a8c E draw N call all ({ dst:=dst,op:=op,type:=ty,pos:=pos,after:=after,guard:=none }::rest) log F H =
  bif a5u N dst then a17 (a1d E draw call F H op) λx=>a8c E draw N call all rest (x.2.2::log) (a3j F dst x.1) x.2.1 else none:=by
 rfl
def c8a(E:Env)(draw:Bool)(N:Nat)(call:CallF)(all:List Oper)(dst:Option Nat)(op:Op)(rest:List Oper)(log:List LogE)(F:Frm)(H:a09)(d:Nat)(want:Bool):AV→Option (Frm×a09×List LogE)
 |.bool b=>bif b then
  (bif want then a17 (a1d E draw call (a3j F (some d) (.bool true)) H op) λx=>a8c E draw N call all rest (x.2.2::log) (a3j (a3j F (some d) (.bool true)) dst x.1) x.2.1
  else a8c E draw N call all rest (⟨[],[]⟩::log) (a3j (a3j F (some d) (.bool true)) dst (.tuple [])) H)
  else
   (bif want then a8c E draw N call all rest (⟨[],[]⟩::log) (a3j (a3j F (some d) (.bool false)) dst (.tuple [])) H
   else a17 (a1d E draw call (a3j F (some d) (.bool false)) H op) λx=>a8c E draw N call all rest (x.2.2::log) (a3j (a3j F (some d) (.bool false)) dst x.1) x.2.1)
 |.tuple []=>a8c E draw N call all rest (⟨[],[]⟩::log) (a3j F dst (.tuple [])) H
 |_=>none
theorem c1e(dst:Option Nat)(op:Op)(ty:TypeId)(pos:String)(after:Array Edge)(j:Nat)(want:Bool) :
 a8c E draw N call all ({ dst:=dst,op:=op,type:=ty,pos:=pos,after:=after,guard:=some (j,want) }::rest) log F H =
  bif a5u N dst then a17 (a32 all j) λd=>c8a E draw N call all dst op rest log F H d want (a2l F d)else none:=by
 unfold a8c;cases a5u N dst with
 |false=>rfl
 |true=>
  simp only[cond_true];cases a32 all j with
  |none=>rfl
  |some d=>simp only[a17];unfold c8a;rfl
section
variable {dst:Option Nat}{op:Op}{d:Nat}
theorem c9v:c8a E draw N call all dst op rest log F H d true (.bool true)=a17 (a1d E draw call ((d,.bool true)::F) H op) λx=>a8c E draw N call all rest (x.2.2::log) (a3j ((d,.bool true)::F) dst x.1) x.2.1:=by rfl
theorem c9w:c8a E draw N call all dst op rest log F H d true (.bool false)=a8c E draw N call all rest (⟨[],[]⟩::log) (a3j ((d,.bool false)::F) dst (.tuple [])) H:=by rfl
theorem c9x:c8a E draw N call all dst op rest log F H d false (.bool true)=a8c E draw N call all rest (⟨[],[]⟩::log) (a3j ((d,.bool true)::F) dst (.tuple [])) H:=by rfl
theorem c9y:c8a E draw N call all dst op rest log F H d false (.bool false)=a17 (a1d E draw call ((d,.bool false)::F) H op) λx=>a8c E draw N call all rest (x.2.2::log) (a3j ((d,.bool false)::F) dst x.1) x.2.1:=by rfl
end
attribute [go_sem] c9z c1e c9v c9w c9x c9y
@[congr] theorem d2f{dst:Option Nat}{op:Op}{d:Nat}{want:Bool}{v v':AV}(h:v=v'):c8a E draw N call all dst op rest log F H d want v=c8a E draw N call all dst op rest log F H d want v':=by rw[h]
/-! ### one operation -/
@[go_sem] theorem d94(x:Operand):a1d E draw call F H (.move x)=some (opv E F x,H,⟨[],[]⟩):=by rfl
@[go_sem] theorem d3w(x:Operand):a1d E draw call F H (.assign x)=some (opv E F x,H,⟨[],[]⟩):=by rfl
theorem a2h{op:Op}{v:Option AV}(h:aop E H.length (a05 H) op (opv E F)=v.map (·,.none))(hs:a1d E draw call F H op=match aop E H.length (a05 H) op (opv E F)with
 |some (v,e)=>bif e.fits H.length then some (v,a8z H e,⟨a7w op (opv E F),e.keys H.length⟩)else none
 |none=>none):a1d E draw call F H op=a17 v λv=>some (v,H,⟨a7w op (opv E F),[]⟩):=by
 rw[hs,h];cases v<;>rfl
@[go_sem] theorem e0o(op:BinOp)(t:TypeId)(x y:Operand)(z):a1d E draw call F H (.binOp op t x y z)=a17 (a90 E op t (opv E F x) (opv E F y) (a41 x||a41 y)) λv=>some (v,H,⟨[],[]⟩):=a2h rfl rfl
@[go_sem] theorem e2r(op:UnOp)(t:TypeId)(x:Operand):a1d E draw call F H (.unOp op t x)=a17 (aun op (opv E F x)) λv=>some (v,H,⟨[],[]⟩):=a2h rfl rfl
@[go_sem] theorem d96(s d:TypeId)(x:Operand):a1d E draw call F H (.convert s d x)=a17 (a8f E (a05 H) s d (opv E F x)) λv=>some (v,H,⟨a12 (opv E F x),[]⟩):=a2h rfl rfl
@[go_sem] theorem d95(t:TypeId)(x:Operand):a1d E draw call F H (.load t x)=a17 (a6w E (a05 H) t (opv E F x)) λv=>some (v,H,⟨a12 (opv E F x),[]⟩):=a2h rfl rfl
@[go_sem] theorem d6w(t:TypeId)(x:Operand)(lo hi mx:Option Operand):a1d E draw call F H (.slice t x lo hi mx)=a17 (a1w E (a05 H) t (opv E F x) (lo.map (opv E F)) (hi.map (opv E F)) (mx.map (opv E F))) λv=>some (v,H,⟨a12 (opv E F x),[]⟩):=a2h rfl rfl
@[go_sem] theorem c88(t:TypeId)(x:Operand)(f:Nat):a1d E draw call F H (.fieldAddr t x f)=a17 (a56 E t (opv E F x) f) λv=>some (v,H,⟨[],[]⟩):=a2h rfl rfl
@[go_sem] theorem c87(t:TypeId)(x i:Operand):a1d E draw call F H (.indexAddr t x i)=a17 (a1y E (a05 H) t (opv E F x) (opv E F i)) λv=>some (v,H,⟨a12 (opv E F x),[]⟩):=a2h rfl rfl
@[go_sem] theorem d6y(t:TypeId)(x i:Operand):a1d E draw call F H (.index t x i)=a17 (b5n E t (opv E F x) (opv E F i)) λv=>some (v,H,⟨[],[]⟩):=a2h rfl rfl
@[go_sem] theorem d70(t:TypeId)(ps:Array (Nat×Operand)):a1d E draw call F H (.build t ps)=a17 (b5q E t (ps.toList.map λp=>(p.1,opv E F p.2))) λv=>some (v,H,⟨[],[]⟩):=a2h rfl rfl
@[go_sem] theorem d3u(t:TypeId)(x k:Operand)(o:Bool):a1d E draw call F H (.lookup t x k o)=a17 (oor (a2v E (a05 H) t (opv E F x) (opv E F k) o) (b3w E (a05 H) t (opv E F x) (opv E F k) o)) λv=>some (v,H,⟨a12 (opv E F x),[]⟩):=a2h rfl rfl
@[go_sem] theorem b99(fn:Fn)(first cap:Array Operand):a1d E draw call F H (.makeFunc fn first cap)=some (.func fn (first.toList.map (opv E F)) (cap.toList.map (opv E F)),H,⟨[],[]⟩):=by rfl
def b8n(c a b:AV):Option AV:=match c with|.bool t=>some (b4b t a b)|_=>none
@[go_sem] theorem d92(c a b:Operand):a1d E draw call F H (.pick c a b)=a17 (b8n (opv E F c) (opv E F a) (opv E F b)) λv=>some (v,H,⟨[],[]⟩):=by refine a2h ?_ rfl;simp only[aop,b8n];cases opv E F c<;>rfl
@[go_sem] theorem d1o(t a b:Bool):b8n (.bool t) (.bool a) (.bool b)=some (.bool (bif t then a else b)):=by rfl
@[go_sem] theorem d1n(a b:AV):b8n (.bool true) a b=some (b4b true a b):=by rfl
@[go_sem] theorem c92(a b:AV):b8n (.bool false) a b=some (b4b false a b):=by rfl
theorem d1l(a b:AV):b4b true a b=a:=by unfold b4b;split<;>simp
theorem d1m(a b:AV):b4b false a b=b:=by unfold b4b;split<;>simp
attribute [go_sem] d1l d1m
def b8o(x:AV):Option AV:=match x with
 |.ptr b i o=>some (.ptr b i o)
 |.iptr cs=>some (.iptr cs)
 |.func (.func f) fs cs=>some (.func (.func f) fs cs)
 |_=>none
attribute [go_sem] b8o
@[go_sem] theorem c9j(x:Operand):a1d E draw call F H (.nilCheck x)=a17 (b8o (opv E F x)) λv=>some (v,H,⟨[],[]⟩):=by
 refine a2h ?_ rfl;simp only[aop];generalize opv E F x=y;cases y<;>try rfl
 rename_i fn _ _;cases fn<;>rfl
def b71(x:AV)(i:Nat):Option AV:=match x with|.tuple vs=>vs[i]?|_=>none
attribute [go_sem] b71
@[go_sem] theorem d2b(t:Operand)(i:Nat):a1d E draw call F H (.extract t i)=a17 (b71 (opv E F t) i) λv=>some (v,H,⟨[],[]⟩):=by
 refine a2h ?_ rfl;simp only[aop,b71];cases opv E F t with
 |tuple vs=>simp only;cases vs[i]?<;>rfl
 |_=>rfl
theorem a4j{op:Op}{v:Option (AV×Eff)}(h:aop E H.length (a05 H) op (opv E F)=v)(hs:a1d E draw call F H op=match aop E H.length (a05 H) op (opv E F)with
 |some (v,e)=>bif e.fits H.length then some (v,a8z H e,⟨a7w op (opv E F),e.keys H.length⟩)else none
 |none=>none){n:List Nat}(hn:a7w op (opv E F)=n):a1d E draw call F H op=a17 v λx=>bif x.2.fits H.length then some (x.1,a8z H x.2,⟨n,x.2.keys H.length⟩)else none:=by
 rw[hs,h];subst hn;cases v<;>rfl
@[go_sem] theorem d71(t:TypeId):a1d E draw call F H (.alloc t)=a17 (d1q E H.length t) λx=>bif x.2.fits H.length then some (x.1,a8z H x.2,⟨[],x.2.keys H.length⟩)else none:=a4j rfl rfl rfl
@[go_sem] theorem e0n(t:TypeId)(x:Operand):a1d E draw call F H (.box t x)=a17 (d1z H.length (opv E F x)) λx=>bif x.2.fits H.length then some (x.1,a8z H x.2,⟨[],x.2.keys H.length⟩)else none:=a4j rfl rfl rfl
@[go_sem] theorem d6v(t:TypeId)(a x:Operand):a1d E draw call F H (.store t a x)=a17 (a73 E (a05 H) t (opv E F a) (opv E F x)) λe=>bif e.fits H.length then some (.tuple [],a8z H e,⟨a12 (opv E F a),e.keys H.length⟩)else none:=by refine(a4j (v:=(a73 E (a05 H) t (opv E F a) (opv E F x)).map (.tuple [],·)) rfl rfl rfl).trans ?_;cases a73 E (a05 H) t (opv E F a) (opv E F x)<;>rfl
@[go_sem] theorem c6h(t:TypeId)(n:Nat)(ps:Array (Nat×Operand)):a1d E draw call F H (.buildSlice t n ps)=a17 (a3d E H.length t n (ps.toList.map λp=>(p.1,opv E F p.2))) λx=>bif x.2.fits H.length then some (x.1,a8z H x.2,⟨[],x.2.keys H.length⟩)else none:=a4j rfl rfl rfl
@[go_sem] theorem c86(t:TypeId)(l c:Operand):a1d E draw call F H (.makeSlice t l c)=a17 (a3v E H.length t (opv E F l) (opv E F c)) λx=>bif x.2.fits H.length then some (x.1,a8z H x.2,⟨[],x.2.keys H.length⟩)else none:=a4j rfl rfl rfl
@[go_sem] theorem d2a(t:TypeId):a1d E draw call F H (.makeMap t none)=some (.map H.length,H++[some (b4y E t)],⟨[],[H.length]⟩):=by rfl
@[go_sem] theorem d3v(t:TypeId)(m k x:Operand):a1d E draw call F H (.insert t m k x)=a17 (oor (a0m E (a05 H) t (opv E F m) (opv E F k) (opv E F x)) (b4a E (a05 H) t (opv E F m) (opv E F k) (opv E F x))) λe=>bif e.fits H.length then some (.tuple [],a8z H e,⟨a12 (opv E F m),e.keys H.length⟩)else none:=by refine(a4j (v:=(oor (a0m E (a05 H) t (opv E F m) (opv E F k) (opv E F x)) (b4a E (a05 H) t (opv E F m) (opv E F k) (opv E F x))).map (.tuple [],·)) rfl rfl rfl).trans ?_;cases oor (a0m E (a05 H) t (opv E F m) (opv E F k) (opv E F x)) (b4a E (a05 H) t (opv E F m) (opv E F k) (opv E F x))<;>rfl
@[go_sem] theorem d6x(t:TypeId)(x:Operand):a1d E draw call F H (.range t x)=a17 (oor (b3t E H.length t (opv E F x)) (b3s E H.length t (opv E F x))) λx=>bif x.2.fits H.length then some (x.1,a8z H x.2,⟨[],x.2.keys H.length⟩)else none:=a4j rfl rfl rfl
@[go_sem] theorem d93(it:Operand)(b:Bool):a1d E draw call F H (.next it b)=a17 (b0y (a05 H) (opv E F it) b) λx=>bif x.2.fits H.length then some (x.1,a8z H x.2,⟨a12 (opv E F it),x.2.keys H.length⟩)else none:=a4j rfl rfl rfl
@[go_sem] theorem e0m(x:Operand)(t:TypeId):a1d E draw call F H (.call { callee:=.builtin .len,args:=#[x],argTypes:=#[t] })=a17 (b90 E (a05 H) t (opv E F x)) λv=>some (v,H,⟨a12 (opv E F x),[]⟩):=by refine(a2h (v:=b90 E (a05 H) t (opv E F x)) rfl rfl).trans ?_;simp[a7w]
@[go_sem] theorem e0l(x:Operand)(xs:List Operand)(ts:Array TypeId):a1d E draw call F H (.call { callee:=.builtin .min,args:=⟨x::xs⟩,argTypes:=ts })=a17 (d34 (opv E F x) (xs.map (opv E F))) λv=>some (v,H,⟨(x::xs).flatMap λx=>a12 (opv E F x),[]⟩):=a2h rfl rfl
@[go_sem] theorem d3x(x y:Operand)(t u:TypeId):a1d E draw call F H (.call { callee:=.builtin .append,args:=#[x,y],argTypes:=#[t,u] })=a17 (oor (a45 E (a05 H) H.length t u (opv E F x) (opv E F y)) (a3i E H.length t u (opv E F x) (opv E F y))) λz=>bif z.2.fits H.length then some (z.1,a8z H z.2,⟨a12 (opv E F x)++a12 (opv E F y),z.2.keys H.length⟩)else none:=a4j rfl rfl (by simp[a7w])
@[go_sem] theorem d39{E:Env}{n:Nat}{t u:TypeId}{x:AV}{b off len:Nat}{cap:Option Nat}:a3i E n t u (.slice b off len cap) x=none:=by unfold a3i;rfl
@[go_sem] theorem d22{E:Env}{n:Nat}{t u:TypeId}{b off len:Nat}{cap:Option Nat}:a3i E n t u .nilslice (.slice b off len cap)=none:=by unfold a3i;rfl
@[go_sem] theorem d7j{α:Type}(x:Option α):oor x none=x:=by cases x<;>rfl
@[go_sem] theorem d7i{α:Type}(x:α)(y:Option α):oor (some x) y=some x:=by rfl
@[go_sem] theorem d00{g:FuncId}{fs cs:List AV}{H H':a09}{σ:List Nat}:a63 E (.func (.func g) fs cs) H H' σ=(E.ro g&&σ.all λb=>b08 (a05 H b) (a05 H' b)):=by rfl
@[go_sem] theorem d64{α:Type}(b:Bool)(x:α):(bif b then x else x)=x:=by cases b<;>rfl
@[go_sem] theorem d2o(ro:Bool)(σ:List Nat)(n:Nat):b44 ro σ n n=bif ro then[]else σ:=by unfold b44;rw[cond_eq_ite,if_pos (by rw[Nat.beq_eq])]
attribute [go_sem] List.range'_succ List.range'_zero
@[go_sem] theorem d97(f:Operand)(args:Array Operand)(ts:Array TypeId):a1d E draw call F H (.call { callee:=.value f,args:=args,argTypes:=ts })=a17 (a0n E draw call (opv E F f) (args.toList.map (opv E F)) H) λx=>some (x.1,x.2.1,⟨x.2.2,b44 (a63 E (opv E F f) H x.2.1 x.2.2) x.2.2 H.length x.2.1.length⟩):=by simp only[a1d];cases a0n E draw call (opv E F f) (args.toList.map (opv E F)) H<;>rfl
end
/-! ### tables read by type -/
section
variable (E:Env)
def b8s(t:TypeId):Option Bool:=(E.und t).map a2m
def b47(t:TypeId)(f:Nat):Option (Nat×TypeId):=match E.und t with|some (.struct fs)=>(fs[f]?).map λd=>(d.offset,d.type)|_=>none
def c8x(t:TypeId):Bool:=match E.und t with
 |some (.struct fs)=>fs.toList.all (λf=>(E.und f.type).isSome)
 |some (.array _ e)=>(E.und e).isSome
 |_=>false
def b75(t:TypeId)(i:Nat):Option (Nat×Nat):=match E.und t with
 |some (.struct fs)=>(fs[i]?).map λf=>(f.offset,E.sz f.type)
 |some (.array _ e)=>some (i*E.sz e,E.sz e)
 |_=>none
def isT(t:TypeId):Bool:=(E.und t).isSome
end
section
variable {E:Env}{h:FHeap}
def d0a:Option Bool→List AV→Option AV
 |some true,cs=>some (.agg cs)
 |some false,cs=>cs.head?
 |none,_=>none
attribute [go_sem] d0a List.head?_cons
@[go_sem] theorem d4t(t:TypeId)(cs:List AV):a2q E t cs=bif decide (cs.length=E.sz t)then d0a (b8s E t) cs else none:=by
 unfold a2q b8s;have e:(cs.length==E.sz t)=decide (cs.length=E.sz t):=by by_cases h:cs.length=E.sz t<;>simp[h]
 rw[e];cases E.und t with
 |none=>cases decide (cs.length=E.sz t)<;>rfl
 |some d=>cases decide (cs.length=E.sz t)<;>simp[d0a]<;>cases a2m d<;>rfl
def fieldAt(E:Env)(p:AV)(o:Nat)(t:TypeId):Option AV:=
 bif decide (E.sz t≠0)&&isT E t then match p with
  |.ptr b i q=>some (.ptr b i (q+o))
  |.iptr cs=>some (.iptr (cs.drop o))
  |_=>none
 else none
attribute [go_sem] fieldAt
@[go_sem] theorem c95(t:TypeId)(p:AV)(f:Nat):a56 E t p f=a17 (b47 E t f) λx=>fieldAt E p x.1 x.2:=by
 unfold a56 b47 fieldAt isT;cases E.und t with
 |none=>rfl
 |some d=>
  cases d<;>try rfl
  rename_i fs;simp only;cases fs[f]? with
  |none=>rfl
  |some fd=>
   by_cases h:E.sz fd.type=0
   ·simp[h,a17]
   ·have e:(E.sz fd.type==0)=false:=beq_eq_false_iff_ne.2 h;simp[h,e,a17];rfl
@[go_sem] theorem d8f(t:TypeId)(parts:List (Nat×AV)):b5q E t parts=bif c8x E t then a17 (E.zero t) λz=>a17 (b0z (b75 E t) z parts) λcs=>some (.agg cs)else none:=by
 unfold b5q c8x b75;cases hz:E.zero t with
 |none=>
  simp only[a17];cases E.und t with
  |none=>rfl
  |some d=>cases d<;>simp
 |some z=>
  cases hu:E.und t with
  |none=>rfl
  |some d=>
   cases d<;>try rfl
   ·simp only[a17];split<;>simp_all<;>split<;>simp_all<;>rfl
   ·simp only[a17];split<;>simp_all<;>split<;>simp_all<;>rfl
end
/-! ### values -/
section
variable {E:Env}{h:FHeap}{t:TypeId}{k:IntKind}{a b:Int}{p q:Bool}{c:Bool}
theorem ikb(k:IntKind):(k==k)=true:=by cases k<;>rfl
@[go_sem] theorem d8r:a90 E .add t (.int k a) (.int k b) c=some (.int k (k.wrap (a+b))):=by simp only[a90,ikb,c17,cond_true]
@[go_sem] theorem d8g:a90 E .sub t (.int k a) (.int k b) c=some (.int k (k.wrap (a-b))):=by simp only[a90,ikb,c17,cond_true]
@[go_sem] theorem d8k:a90 E .mul t (.int k a) (.int k b) c=some (.int k (k.wrap (a*b))):=by simp only[a90,ikb,c17,cond_true]
@[go_sem] theorem d8i(hb:(b=0)=False):a90 E .rem t (.int k a) (.int k b) c=some (.int k (a.tmod b)):=by
 have:(b==0)=false:=by rw[beq_eq_false_iff_ne];exact λe=>hb▸e
 simp only[a90,ikb,c17,cond_true,this,cond_false]
def a3p(k:IntKind)(a b:Int):Int:=k.wrap (BitVec.ofInt k.bits a&&&BitVec.ofInt k.bits b).toNat
@[go_sem] theorem d8q:a90 E .and t (.int k a) (.int k b) c=some (.int k (a3p k a b)):=by simp only[a90,ikb,c17,cond_true,a3p]
theorem e2c(a b:Int):(a==b)=decide (a=b):=by
 by_cases h:a=b
 ·subst h;simp
 ·rw[beq_eq_false_iff_ne.2 h,decide_eq_false h]
@[go_sem] theorem d8p:a90 E .eql t (.int k a) (.int k b) c=some (.bool (decide (a=b))):=by simp only[a90,ikb,c17,cond_true,e2c]
@[go_sem] theorem d8j:a90 E .neq t (.int k a) (.int k b) c=some (.bool (!decide (a=b))):=by simp only[a90,ikb,c17,cond_true,bne,e2c]
@[go_sem] theorem d8l:a90 E .lss t (.int k a) (.int k b) c=some (.bool (decide (a<b))):=by simp only[a90,ikb,c17,cond_true]
@[go_sem] theorem d8m:a90 E .leq t (.int k a) (.int k b) c=some (.bool (decide (a≤b))):=by simp only[a90,ikb,c17,cond_true]
@[go_sem] theorem d8n:a90 E .gtr t (.int k a) (.int k b) c=some (.bool (decide (b<a))):=by simp only[a90,ikb,c17,cond_true]
@[go_sem] theorem d8o:a90 E .geq t (.int k a) (.int k b) c=some (.bool (decide (b≤a))):=by simp only[a90,ikb,c17,cond_true]
@[go_sem] theorem e4x(b:Bool):(b==b)=true:=by cases b<;>rfl
@[go_sem] theorem e4w:(false==true)=false:=by rfl
@[go_sem] theorem d6n(ht:E.und t=some .bool):a90 E .eql t (.bool p) (.bool q) c=some (.bool (p==q)):=by simp[a90,AV.eqShape,aeq,ht]
@[go_sem] theorem d8h{op:BinOp}{x y:List UInt8}(h1:op≠ .shl:=by decide)(h2:op≠ .shr:=by decide):a90 E op t (.str x) (.str y) c=d1h op x y:=by cases op<;>first|rfl|exact absurd rfl h1|exact absurd rfl h2
@[go_sem] theorem e0e:aun .not (.bool p)=some (.bool (!p)):=by rfl
@[go_sem] theorem d3b(o:Option AObj)(r:a09):a05 (o::r) 0=o:=by simp[a05]
@[go_sem] theorem d3c(o:Option AObj)(r:a09)(n:Nat):a05 (o::r) (n+1)=a05 r n:=by simp[a05]
@[go_sem] theorem d6q(n:Nat):a05 [] n=none:=by rfl
def slT(E:Env)(t:TypeId):Option TypeId:=match E.und t with|some (.slice e)=>some e|_=>none
theorem a4a{e:TypeId}:slT E t=some e↔E.und t=some (.slice e):=by
 unfold slT;constructor
 ·intro h;split at h
  ·rename_i heq;cases h;exact heq
  ·cases h
 ·intro h;rw[h]
def b1i:Option AObj→Option (Nat×List (List AV))
 |some (.row k rows)=>some (k,rows)
 |_=>none
attribute [go_sem] b1i
def b67(rows:List (List AV))(i:Int):Option (List AV):=if 0≤i then rows[i.toNat]? else none
@[go_sem] theorem d47(rows:List (List AV))(n:Nat):b67 rows (n:Int)=rows[n]?:=by simp[b67]
theorem c3f{rows:List (List AV)}{i:Int}(h:0≤i):b67 rows i=rows[i.toNat]?:=by simp[b67,h]
def inR(i:Int)(n:Nat):Bool:=decide (0≤i)&&decide (i<n)
@[go_sem] theorem b2y(j n:Nat):inR (j:Int) n=decide (j<n):=by
 unfold inR;rw[decide_eq_true (by omega:(0:Int)≤j),Bool.true_and];by_cases h:j<n
 ·rw[decide_eq_true h,decide_eq_true (by omega)]
 ·rw[decide_eq_false h,decide_eq_false (by omega)]
theorem b6z{i:Int}{n:Nat}:c29 (.int k i) n=bif inR i n then some i.toNat else none:=rfl
@[go_sem] theorem d36{b o n:Nat}{cp:Option Nat}(hs:(slT E t).isSome=true):b90 E h t (.slice b o n cp)=some (.int .i64 n):=by obtain⟨e,he⟩:=Option.isSome_iff_exists.1 hs;simp only[b90,a4a.1 he]
@[go_sem] theorem d8c(hs:(slT E t).isSome=true):b90 E h t .nilslice=some (.int .i64 0):=by obtain⟨e,he⟩:=Option.isSome_iff_exists.1 hs;simp only[b90,a4a.1 he]
def d29(E:Env)(t:TypeId):Bool:=match E.und t with|some .string=>true|_=>false
theorem b5z:d29 E t=true→E.und t=some .string:=by
 unfold d29;intro h;split at h
 ·rename_i heq;exact heq
 ·cases h
@[go_sem] theorem d8b{s:List UInt8}(hs:d29 E t=true):b90 E h t (.str s)=some (.int .i64 s.length):=by simp only[b90,b5z hs]
def d5a(E:Env)(e:Option TypeId)(r:Option (List AV)):Option AV:=match e,r with
 |some e,some r=>bif isT E e&&decide (r.length=E.sz e)then some (.iptr r)else none
 |_,_=>none
attribute [go_sem] d5a
theorem b8z(a b:Nat):(a==b)=decide (a=b):=by
 by_cases h:a=b
 ·subst h;simp
 ·rw[beq_eq_false_iff_ne.2 h,decide_eq_false h]
@[go_sem] theorem b30{rows:List (List AV)}{cp:Option Nat}{i:Int}:a1y E h t (.islice rows cp) (.int k i)=match slT E t with|some e=>d5a E (some e) (b67 rows i)|none=>a1y E h t (.islice rows cp) (.int k i):=by
 cases hs:slT E t with
 |none=>rfl
 |some e=>
  have hu:=a4a.1 hs;simp only[a1y,hu,b6z,inR,d5a,isT];by_cases h0:0≤i
  ·rw[decide_eq_true h0,c3f h0];by_cases h1:i<rows.length
   ·rw[decide_eq_true h1];have:i.toNat<rows.length:=by omega
    simp only[z9e this,Bool.and_self,cond_true,b8z];cases(E.und e).isSome<;>rfl
   ·rw[decide_eq_false h1];rw[List.getElem?_eq_none (by omega)];simp
  ·simp[h0,b67]
def d9t(E:Env)(e:Option TypeId)(ok:Bool)(r:Option (Nat×List (List AV)))(b j:Nat):Option AV:=match e,r with
 |some e,some r=>bif isT E e&&ok&&decide (r.1=E.sz e)then some (.ptr b j 0)else none
 |_,_=>none
attribute [go_sem] d9t Int.toNat_natCast
@[go_sem] theorem d2s{b o n:Nat}{cp:Option Nat}{i:Int}:a1y E h t (.slice b o n cp) (.int k i)=match slT E t with|some e=>d9t E (some e) (inR i n) (b1i (h b)) b (o+i.toNat)|none=>a1y E h t (.slice b o n cp) (.int k i):=by
 cases hs:slT E t with
 |none=>rfl
 |some e=>
  have hu:=a4a.1 hs;simp only[a1y,hu,b6z,d9t,isT];cases hb:h b with
  |none=>cases inR i n<;>simp[b1i]
  |some o=>cases o<;>cases inR i n<;>simp[b1i,b8z];cases(E.und e).isSome<;>simp
@[go_sem] theorem e3a(n:Nat):inR 0 n=decide (0<n):=b2y 0 n
@[go_sem] theorem d8z:Int.toNat 0=0:=by rfl
@[go_sem] theorem e39(n:Nat):inR 1 n=decide (1<n):=b2y 1 n
@[go_sem] theorem d8y:Int.toNat 1=1:=by rfl
@[go_sem] theorem e38(n:Nat):inR 2 n=decide (2<n):=b2y 2 n
@[go_sem] theorem d8x:Int.toNat 2=2:=by rfl
@[go_sem] theorem e37(n:Nat):inR 3 n=decide (3<n):=b2y 3 n
@[go_sem] theorem d8w:Int.toNat 3=3:=by rfl
@[go_sem] theorem e36(n:Nat):inR 4 n=decide (4<n):=b2y 4 n
@[go_sem] theorem d8v:Int.toNat 4=4:=by rfl
@[go_sem] theorem d37{s:List UInt8}{i:Int}(hs:d29 E t=true):b5n E t (.str s) (.int k i)=bif inR i s.length then(s[i.toNat]?).map (λb=>.int .u8 b.toNat)else none:=by
 simp only[b5n,b5z hs,b6z];cases inR i s.length with
 |false=>rfl
 |true=>simp only[cond_true];cases s[i.toNat]?<;>rfl
@[go_sem] theorem d35{cs:List AV}:a6w E h t (.iptr cs)=a2q E t (cs.take (E.sz t)):=by rfl
@[go_sem] theorem d6k{b i o:Nat}:a6w E h t (.ptr b i o)=a17 (b1i (h b)) λkr=>a17 (kr.2[i]?) λr=>a2q E t ((r.drop o).take (E.sz t)):=by
 unfold a6w;cases hb:h b with
 |none=>simp only[hb];rfl
 |some ob=>cases ob<;>simp only[hb,b1i,a17];rename_i rows;cases rows[i]?<;>rfl
@[go_sem] theorem d2z{b i o:Nat}{x:AV}:a73 E h t (.ptr b i o) x=a17 (b1i (h b)) λkr=>a17 (kr.2[i]?) λr=>
 bif decide (x.cells.length=E.sz t)&&isT E t&&Nat.ble (o+x.cells.length) r.length&&x.cells.all AV.storable then some (.set b (.row kr.1 (kr.2.set i (splice r o x.cells))))else none:=by
 unfold a73;cases hb:h b with
 |none=>simp only[hb];rfl
 |some ob=>cases ob<;>simp only[hb,b1i,a17];rename_i rows;cases rows[i]?<;>simp only[isT,b8z]
@[go_sem] theorem e2e{n:Nat}:d1q E n t=a17 (E.zero t) λz=>bif decide (0<z.length)then some (.ptr n 0 0,.new (bif Nat.beq t E.bT then .trow t true z.length [z]else .row z.length [z]))else none:=by
 unfold d1q;cases E.zero t with
 |none=>rfl
 |some z=>simp only[a17];cases z<;>rfl
@[go_sem] theorem e2f{n:Nat}{x:AV}:d1z n x=bif !x.isJunk&&decide (0<x.cells.length)then some (.ptr n 0 0,.new (.row x.cells.length [x.cells]))else none:=by
 have e:Nat.blt 0 x.cells.length=decide (0<x.cells.length):=by rw[Bool.eq_iff_iff];simp[Nat.blt_eq]
 cases x<;>simp only[d1z,e,AV.isJunk,Bool.not_false,Bool.true_and,Bool.not_true,Bool.false_and,cond_false]
theorem c58(a b:Nat):Nat.ble a b=decide (a≤b):=by rw[Bool.eq_iff_iff];simp[Nat.ble_eq]
theorem c57(a b:Nat):Nat.blt a b=decide (a<b):=by rw[Bool.eq_iff_iff];simp[Nat.blt_eq]
attribute [go_sem] c58 c57
@[go_sem] theorem d72(r:List AV)(o:Nat)(cs:List AV):splice r o cs=r.take o++cs++r.drop (o+cs.length):=by rfl
def d7k(E:Env)(e:TypeId)(l c:Int):Bool:=decide (0≤l)&&decide (l≤c)&&decide (c≤281474976710656)&&decide ((E.bytes e:Int)*c≤281474976710656)
@[go_sem] theorem c94{n:Nat}{k':IntKind}{l c:Int}:a3v E n t (.int k l) (.int k' c)=a17 (slT E t) λe=>a17 (E.zero e) λz=>bif d7k E e l c&&decide (0<z.length)then
 some (AV.slice n 0 l.toNat (some c.toNat),Eff.new (.row z.length (List.replicate c.toNat z)))else none:=by
 cases hs:slT E t with
 |none=>
  unfold a3v;unfold slT at hs;cases hu:E.und t with
  |none=>rfl
  |some d=>cases d<;>first|rfl|(rw[hu]at hs;cases hs)
 |some e=>have hu:=a4a.1 hs;simp only[a3v,hu,a17,d7k,c57];cases E.zero e<;>rfl
@[go_sem] theorem c7x{n m:Nat}{ps:List (Nat×AV)}:a3d E n t m ps=a17 (slT E t) λe=>a17 (E.zero e) λz=>bif decide (0<z.length)&&decide (m*z.length≤16777216)then
 a17 (b3r z.length (List.replicate m z) ps) λrows=>some (AV.slice n 0 m (some m),Eff.new (.row z.length rows))else none:=by
 cases hs:slT E t with
 |none=>
  unfold a3d;unfold slT at hs;cases hu:E.und t with
  |none=>rfl
  |some d=>cases d<;>first|rfl|(rw[hu]at hs;cases hs)
 |some e=>
  have hu:=a4a.1 hs;simp only[a3d,hu,a17];cases E.zero e with
  |none=>rfl
  |some z=>
   simp only[c57,c58];cases decide (0<z.length)&&decide (m*z.length≤16777216)with
   |false=>rfl
   |true=>simp only[cond_true];cases b3r z.length (List.replicate m z) ps<;>rfl
@[go_sem] theorem d6f(m:Nat)(rows:List (List AV)):b3r m rows []=some rows:=by rfl
@[go_sem] theorem d33(m:Nat)(rows:List (List AV))(i:Nat)(v:AV)(r:List (Nat×AV)):b3r m rows ((i,v)::r)=bif !v.isJunk&&decide (v.cells.length=m)&&decide (i<rows.length)then b3r m (rows.set i v.cells) r else none:=by simp only[b3r,b8z,c57]
@[go_sem] theorem d6l(pl:Nat→Option (Nat×Nat))(cs:List AV):b0z pl cs []=some cs:=by rfl
@[go_sem] theorem d38(pl:Nat→Option (Nat×Nat))(cs:List AV)(i:Nat)(v:AV)(r:List (Nat×AV)):b0z pl cs ((i,v)::r)=a17 (pl i) λx=>bif !v.isJunk&&decide (v.cells.length=x.2)&&decide (x.1+x.2≤cs.length)then b0z pl (splice cs x.1 v.cells) r else none:=by
 simp only[b0z];cases pl i with
 |none=>rfl
 |some x=>simp only[a17,b8z,c58]
@[go_sem] theorem d5z{H:a09}:a8z H .none=H:=by rfl
@[go_sem] theorem d80{H:a09}{o:AObj}:a8z H (.new o)=H++[some o]:=by rfl
@[go_sem] theorem d7z{H:a09}{b:Nat}{o:AObj}:a8z H (.set b o)=H.set b (some o):=by rfl
@[go_sem] theorem d60{H:a09}{b:Nat}{o:AObj}:a8z H (.kill b o)=H.set b none++[some o]:=by rfl
@[go_sem] theorem d7y{n:Nat}{o:AObj}:Eff.fits n (.new o)=true:=by rfl
@[go_sem] theorem d5q{n:Nat}:Eff.fits n .none=true:=by rfl
@[go_sem] theorem d7x{n b:Nat}{o:AObj}:Eff.fits n (.set b o)=decide (b<n):=c57 b n
@[go_sem] theorem d5r{n b:Nat}{o:AObj}:Eff.fits n (.kill b o)=decide (b<n):=c57 b n
attribute [go_sem] List.all_cons List.all_nil List.set_cons_zero List.set_cons_succ List.set_nil List.replicate_zero
end
@[go_sem] theorem d6a(k:IntKind)(n:Int):AV.cells (.int k n)=[(AV.int k n)]:=by rfl
@[go_sem] theorem c85(k:IntKind)(n:Int):AV.storable (.int k n)=true:=by rfl
@[go_sem] theorem d7p(k:IntKind)(n:Int):AV.isJunk (.int k n)=false:=by rfl
@[go_sem] theorem d28(k:IntKind)(n:Int):a12 (.int k n)=[]:=by rfl
@[go_sem] theorem b3j(s:List UInt8):AV.cells (.str s)=[(AV.str s)]:=by rfl
@[go_sem] theorem c84(s:List UInt8):AV.storable (.str s)=true:=by rfl
@[go_sem] theorem d7o(s:List UInt8):AV.isJunk (.str s)=false:=by rfl
@[go_sem] theorem d25(s:List UInt8):a12 (.str s)=[]:=by rfl
@[go_sem] theorem c62:AV.cells .nilslice=[AV.nilslice]:=by rfl
@[go_sem] theorem c1a:AV.storable .nilslice=true:=by rfl
@[go_sem] theorem c70:AV.isJunk .nilslice=false:=by rfl
@[go_sem] theorem c31:a12 .nilslice=[]:=by rfl
@[go_sem] theorem d26(b i o:Nat):a12 (.ptr b i o)=[b]:=by rfl
@[go_sem] theorem c9e(l:List AV):a12 (.iptr l)=[]:=by rfl
@[go_sem] theorem d1e(b o n:Nat)(c:Option Nat):AV.cells (.slice b o n c)=[(AV.slice b o n c)]:=by rfl
@[go_sem] theorem c5z(b o n:Nat)(c:Option Nat):AV.storable (.slice b o n c)=true:=by rfl
@[go_sem] theorem d2q(b o n:Nat)(c:Option Nat):AV.isJunk (.slice b o n c)=false:=by rfl
@[go_sem] theorem c82(b o n:Nat)(c:Option Nat):a12 (.slice b o n c)=[b]:=by rfl
@[go_sem] theorem d27(b:Nat):a12 (.map b)=[b]:=by rfl
@[go_sem] theorem d6b(l:List AV):AV.cells (.agg l)=l:=by rfl
@[go_sem] theorem d7q(l:List AV):AV.isJunk (.agg l)=false:=by rfl
@[go_sem] theorem d4z(n:Nat):Eff.keys n .none=[]:=by rfl
@[go_sem] theorem d7n(n:Nat)(o:AObj):Eff.keys n (.new o)=[n]:=by rfl
@[go_sem] theorem d7m(n b:Nat)(o:AObj):Eff.keys n (.set b o)=[b]:=by rfl
@[go_sem] theorem d50(n b:Nat)(o:AObj):Eff.keys n (.kill b o)=[b,n]:=by rfl
@[go_sem] theorem e33:1+1=2:=by rfl
@[go_sem] theorem e32:2+1=3:=by rfl
@[go_sem] theorem e31:3+1=4:=by rfl
@[go_sem] theorem e30:4+1=5:=by rfl
@[go_sem] theorem e2z:5+1=6:=by rfl
@[go_sem] theorem e2y:6+1=7:=by rfl
@[go_sem] theorem e2x:7+1=8:=by rfl
@[go_sem] theorem e2w:8+1=9:=by rfl
@[go_sem] theorem e2v:9+1=10:=by rfl
@[go_sem] theorem e1n:10+1=11:=by rfl
@[go_sem] theorem e1m:11+1=12:=by rfl
@[go_sem] theorem e1l:12+1=13:=by rfl
@[go_sem] theorem e1k:13+1=14:=by rfl
@[go_sem] theorem e1j:14+1=15:=by rfl
@[go_sem] theorem e1i:15+1=16:=by rfl
@[go_sem] theorem e1h:16+1=17:=by rfl
@[go_sem] theorem e1g:17+1=18:=by rfl
@[go_sem] theorem e1f:18+1=19:=by rfl
@[go_sem] theorem e1e:19+1=20:=by rfl
@[go_sem] theorem e1d:2+5=7:=by rfl
@[go_sem] theorem e1c:3+2=5:=by rfl
@[go_sem] theorem e1b:3+3=6:=by rfl
@[go_sem] theorem e1a:3+4=7:=by rfl
@[go_sem] theorem d78{α:Type}(a:α):List.replicate 1 a=[a]:=by rfl
@[go_sem] theorem d77{α:Type}(a:α):List.replicate 2 a=[a,a]:=by rfl
@[go_sem] theorem d76{α:Type}(a:α):List.replicate 3 a=[a,a,a]:=by rfl
@[go_sem] theorem d75{α:Type}(a:α):List.replicate 5 a=[a,a,a,a,a]:=by rfl
attribute [go_sem] List.map_cons List.map_nil List.append_nil List.nil_append List.cons_append List.length_cons List.length_nil a2m cond_true cond_false Option.map_some Option.map_none List.drop_zero List.drop_succ_cons List.take_succ_cons List.take_zero List.drop_nil List.take_nil List.getElem?_cons_zero List.getElem?_cons_succ List.getElem?_nil Nat.zero_add Nat.add_zero Nat.zero_mul Nat.mul_one decide_true decide_false Bool.and_true Bool.true_and Bool.and_false Bool.false_and Bool.or_true Bool.true_or Bool.or_false Bool.false_or Bool.not_true Bool.not_false Option.bind_some Option.isSome_some a32 decide_eq_true_eq
end Go.Ax
/- AxFlat: values that refer to no mutable block: renaming and freezing leave them; calls on them. -/
namespace Go.Ax
mutual
theorem a82(π:Nat→Option Nat):∀(v:AV),a6b v=[]→ren π v=v
 |.ptr ..,h=>by simp[a6b]at h
 |.slice ..,h=>by simp[a6b]at h
 |.map ..,h=>by simp[a6b]at h
 |.yfn ..,h=>by simp[a6b]at h
 |.func fn fs cs,h=>by simp only[a6b,List.append_eq_nil_iff]at h;simp only[ren,a66 π fs h.1,a66 π cs h.2]
 |.iface t x,h=>by simp only[a6b]at h;simp only[ren,a82 π x h]
 |.agg cs,h=>by simp only[a6b]at h;simp only[ren,a66 π cs h]
 |.tuple cs,h=>by simp only[a6b]at h;simp only[ren,a66 π cs h]
 |.junk,_|.bool _,_|.int ..,_|.str _,_|.nilptr,_|.nilslice,_|.nilmap,_|.nilfunc,_|.nilifc,_|.iptr _,_|.islice ..,_|.imap ..,_|.iset _,_=>rfl
theorem a66(π:Nat→Option Nat):∀(l:List AV),a0z l=[]→b8x π l=l
 | [],_=>rfl
 |v::vs,h=>by simp only[a0z,List.append_eq_nil_iff]at h;simp only[b8x,a82 π v h.1,a66 π vs h.2]
end
theorem a65(π:Nat→Option Nat){l:List AV}(h:a0z l=[]):l.map (ren π)=l:=by rw[←a7e];exact a66 π l h
mutual
theorem b33(m:Nat)(top:Bool)(d:AV→Option AV):∀(v:AV),a6b v=[]→a4s m top d v=some v
 |.ptr ..,h=>by simp[a6b]at h
 |.slice ..,h=>by simp[a6b]at h
 |.map ..,h=>by simp[a6b]at h
 |.yfn ..,h=>by simp[a6b]at h
 |.func fn fs cs,h=>by simp only[a6b,List.append_eq_nil_iff]at h;simp only[a4s,a67 m top d fs h.1,a67 m top d cs h.2]
 |.iface t x,h=>by simp only[a6b]at h;simp only[a4s,b33 m top d x h]
 |.agg cs,h=>by simp only[a6b]at h;simp only[a4s,a67 m top d cs h]
 |.tuple cs,h=>by simp only[a6b]at h;simp only[a4s,a67 m top d cs h]
 |.junk,_|.bool _,_|.int ..,_|.str _,_|.nilptr,_|.nilslice,_|.nilmap,_|.nilfunc,_|.nilifc,_|.iptr _,_|.islice ..,_|.imap ..,_|.iset _,_=>rfl
theorem a67(m:Nat)(top:Bool)(d:AV→Option AV):∀(l:List AV),a0z l=[]→a74 m top d l=some l
 | [],_=>rfl
 |v::vs,h=>by simp only[a0z,List.append_eq_nil_iff]at h;simp only[a74,b33 m top d v h.1,a67 m top d vs h.2]
end
def FlatR(rows:List (List AV)):Prop:=∀r∈rows,a0z r=[]
theorem FlatR.append{a b:List (List AV)}(h:FlatR a)(k:FlatR b):FlatR (a++b):=by intro x hx;simp only[List.mem_append]at hx;exact hx.elim (h x) (k x)
theorem FlatR.map{α:Type}{f:α→List AV}{l:List α}(h:∀x,a0z (f x)=[]):FlatR (l.map f):=by intro x hx;simp only[List.mem_map]at hx;obtain⟨y,_,rfl⟩:=hx;exact h y
theorem FlatR.replicate{n:Nat}{r:List AV}(h:a0z r=[]):FlatR (List.replicate n r):=by intro x hx;rw[(List.mem_replicate.1 hx).2];exact h
theorem FlatR.drop{rows:List (List AV)}{i:Nat}(h:FlatR rows):FlatR (rows.drop i):=λx hx=>h x (List.mem_of_mem_drop hx)
theorem FlatR.take{rows:List (List AV)}{i:Nat}(h:FlatR rows):FlatR (rows.take i):=λx hx=>h x (List.mem_of_mem_take hx)
theorem a01{rows:List (List AV)}(h:FlatR rows):rows.flatMap a0z=[]:=by rw[List.flatMap_eq_nil_iff];exact h
theorem a02(π:Nat→Option Nat){rows:List (List AV)}(h:FlatR rows):rows.map (λr=>r.map (ren π))=rows:=by
 conv=>rhs;rw[←List.map_id rows]
 exact List.map_congr_left λr hr=>a65 π (h r hr)
theorem a13(m:Nat)(d:AV→Option AV):∀{rows:List (List AV)},FlatR rows→c2j m d rows=some rows
 | [],_=>rfl
 |r::rs,h=>by simp only[c2j,a67 m false d r (h r (by simp)),a13 m d (rows:=rs) (λx hx=>h x (by simp[hx]))]
/-! ### slices that are immutable, nil or not -/
def sl(c:Option (Option Nat))(rows:List (List AV)):AV:=match c,rows with
 |none,[]=>.nilslice
 |none,r::rs=>.islice (r::rs) none
 |some c,rows=>.islice rows c
@[go_sem] theorem b9b(c:Option Nat)(rows:List (List AV)):sl (some c) rows = .islice rows c:=by cases rows<;>rfl
@[go_sem] theorem a0v:sl none [] = .nilslice:=by rfl
theorem a1n{rows:List (List AV)}(h:rows≠[]):sl none rows = .islice rows none:=by cases rows with|nil=>exact absurd rfl h|cons=>rfl
@[go_sem] theorem c3i(c:Option (Option Nat))(rows:List (List AV)):a6b (sl c rows)=[]:=by cases c<;>cases rows<;>rfl
@[go_sem] theorem e0q(π:Nat→Option Nat)(c:Option (Option Nat))(rows:List (List AV)):ren π (sl c rows)=sl c rows:=a82 π _ (c3i c rows)
@[go_sem] theorem d3n(c:Option (Option Nat))(rows:List (List AV)):a12 (sl c rows)=[]:=by cases c<;>cases rows<;>rfl
@[go_sem] theorem d84(c:Option (Option Nat))(rows:List (List AV)):(sl c rows).cells=[sl c rows]:=by cases c<;>cases rows<;>rfl
@[go_sem] theorem c9i(c:Option (Option Nat))(rows:List (List AV)):(sl c rows).storable=true:=by cases c<;>cases rows<;>rfl
@[go_sem] theorem d9r(c:Option (Option Nat))(rows:List (List AV)):(sl c rows).isJunk=false:=by cases c<;>cases rows<;>rfl
section
variable {E:Env}{h:FHeap}{t e:TypeId}{c:Option (Option Nat)}{rows:List (List AV)}{k:IntKind}
@[go_sem] theorem e0g(hs:(slT E t).isSome=true):b90 E h t (sl c rows)=some (.int .i64 rows.length):=by obtain⟨e,he⟩:=Option.isSome_iff_exists.1 hs;have ht:=a4a.1 he;cases c<;>cases rows<;>simp[sl,b90,ht]
@[go_sem] theorem d9u{i:Int}:a1y E h t (sl c rows) (.int k i)=match slT E t with|some e=>d5a E (some e) (b67 rows i)|none=>a1y E h t (sl c rows) (.int k i):=by
 cases c with
 |some c=>rw[b9b];exact b30
 |none=>cases rows with
  |nil=>
   cases hs:slT E t with
   |none=>rfl
   |some e=>
    have hu:=a4a.1 hs;simp only[sl,a1y,hu,d5a];cases h2:b67 [] i with
    |none=>simp
    |some r=>unfold b67 at h2;split at h2<;>simp at h2
  |cons a l=>exact b30
end
/-! ### calls -/
@[go_sem] theorem e08(a:AV):a3k 0 [a]=[(0,a)]:=by rfl
@[go_sem] theorem e07(a b:AV):a3k 0 [a,b]=[(0,a),(1,b)]:=by rfl
@[go_sem] theorem e06(a b c:AV):a3k 0 [a,b,c]=[(0,a),(1,b),(2,c)]:=by rfl
@[go_sem] theorem e05(a b c d:AV):a3k 0 [a,b,c,d]=[(0,a),(1,b),(2,c),(3,d)]:=by rfl
theorem a8o(n:Nat)(H1:a09):∀(b:Nat) (H:a09),a0u [] n H1 b H=H
 |_,[]=>rfl
 |b,o::r=>by simp only[a0u,List.idxOf?_nil,a8o n H1 (b+1) r]
theorem b8g{run:List AV→a09→Option (AV×a09)}{args:List AV}{H:a09}{v:AV}(ha:a0z args=[])(h:run args []=some (v,[]))(hv:a6b v=[]):a2u run args H=some (v,H,[]):=by
 unfold a2u;have hr:a0l H a3b (a0z args) []=[]:=by rw[ha];rfl
 simp only[hr,a2c,List.all_nil,Bool.and_self,cond_true,a65 _ ha,a0x,List.map_nil,h,a82 _ v hv,a8o,List.drop_nil,List.append_nil,List.length_nil]
theorem a0h{E:Env}{draw:Bool}{call:CallF}{g:FuncId}{fs cs ar args:List AV}{H:a09}{v:AV}(hx:E.ext g=false)(hf:(E.fn g).isSome=true)(he:fs++ar++cs=args)(ha:a0z args=[])(h:call g args []=some (v,[]))(hv:a6b v=[]) :
 a0n E draw call (.func (.func g) fs cs) ar H=some (v,H,[]):=by
 simp only[a0n,hx,hf,he,cond_true,cond_false,b8g ha h hv];cases draw
 ·rfl
 ·simp only[Bool.true_and];rw[show Nat.ble H.length H.length=true by rw[Nat.ble_eq];exact Nat.le_refl _];rfl
@[go_sem] theorem d7d(k:IntKind)(n:Int):a6b (.int k n)=[]:=by rfl
@[go_sem] theorem d4e(b:Bool):a6b (.bool b)=[]:=by rfl
@[go_sem] theorem d7b(s:List UInt8):a6b (.str s)=[]:=by rfl
@[go_sem] theorem c6m:a6b .nilslice=[]:=by rfl
@[go_sem] theorem d01:a6b .nilptr=[]:=by rfl
@[go_sem] theorem d7e(l:List AV):a6b (.agg l)=a0z l:=by rfl
@[go_sem] theorem d2i(l:List AV):a6b (.tuple l)=a0z l:=by rfl
@[go_sem] theorem d4d(f:Fn)(a b:List AV):a6b (.func f a b)=a0z a++a0z b:=by rfl
@[go_sem] theorem d7c(b i o:Nat):a6b (.ptr b i o)=[b]:=by rfl
@[go_sem] theorem d2j(b i o:Nat)(c:Option Nat):a6b (.slice b i o c)=[b]:=by rfl
@[go_sem] theorem d4h:a0z []=[]:=by rfl
@[go_sem] theorem d2k(v:AV)(l:List AV):a0z (v::l)=a6b v++a0z l:=by rfl
/-! ### what a loop's head keeps -/
/-! ### globals -/
end Go.Ax
/- AxBits: words of 64 bits; sums that fit. -/
namespace Go.Ax
def u64(x:BitVec 64):AV:=.int .u64 (x.toNat:Int)
section
variable {E:Env}{t:TypeId}{c:Bool}{x y:BitVec 64}{k:IntKind}
def c8l(E:Env)(t:TypeId):Option IntKind:=match E.und t with|some (.int k)=>some k|_=>none
theorem c0k{k:IntKind}:c8l E t=some k→E.und t=some (.int k):=by
 unfold c8l;intro h;split at h
 ·rename_i heq;cases h;exact heq
 ·cases h
def cvI(k:IntKind)(n:Int):AV:=.int k (k.wrap n)
@[go_sem] theorem e0b(n:Int):cvI .i64 n = .int .i64 (IntKind.i64.wrap n):=by rfl
@[go_sem] theorem e2a(n:Int):cvI .u8 n = .int .u8 (IntKind.u8.wrap n):=by rfl
@[go_sem] theorem d82{h:FHeap}{s d:TypeId}{k:IntKind}{n:Int}(hs:isT E s=true):a8f E h s d (.int k n)=match c8l E d with|some k'=>some (cvI k' n)|none=>a8f E h s d (.int k n):=by
 cases hd:c8l E d with
 |none=>rfl
 |some k'=>have hu:=c0k hd;obtain⟨ds,hds⟩:=Option.isSome_iff_exists.1 (show(E.und s).isSome=true from hs);simp only[a8f,hu,hds];cases ds<;>simp[c7w,hu,hds,cvI]
theorem w64{n:Int}(h1:-9223372036854775808≤n)(h2:n≤9223372036854775807):IntKind.i64.wrap n=n:=IntWalk.i64_in n ⟨h1,h2⟩
end
end Go.Ax
/- AxWp: what a statement comes to, by a condition on the end. -/
namespace Go.Ax
@[go_sem] theorem d51(F:Frm):a5s [] F=[]:=by rfl
@[go_sem] theorem d2p(s:Nat)(r:List Nat)(F:Frm):a5s (s::r) F=(s,a2l F s)::a5s r F:=by rfl
@[go_sem] theorem d4q(v:AV):a7i [v]=v:=by rfl
@[go_sem] theorem d4p(v w:AV)(l:List AV):a7i (v::w::l) = .tuple (v::w::l):=by rfl
@[go_sem] theorem d89{E:Env}{F:Frm}{H:a09}:a1p E F H []=some []:=by rfl
@[go_sem] theorem d88{E:Env}{F:Frm}{H:a09}(t:Nat)(r:List ResultVar):a1p E F H (.tmp t::r)=a17 (a1p E F H r) λvs=>some (a2l F t::vs):=by simp only[a1p];cases a1p E F H r<;>rfl
@[go_sem] theorem d6h{E:Env}{F:Frm}{H:a09}(a t:Nat)(r:List ResultVar):a1p E F H (.cell a t::r)=a17 (a6w E (a05 H) t (a2l F a)) λv=>a17 (a1p E F H r) λvs=>some (v::vs):=by simp only[a1p];cases a6w E (a05 H) t (a2l F a)<;>cases a1p E F H r<;>rfl
abbrev b4f:=AExit→Frm→a09→Prop
def bk(id:Nat)(Q:b4f):b4f:=λe F H=>match e with|.exit i=>if i=id then Q .normal F H else Q (.exit i) F H|e=>Q e F H
def WpR:Code→Cx→Frm→a09→b4f→Prop
 |.skip,_,F,H,Q=>Q .normal F H
 |.label _,_,F,H,Q=>Q .normal F H
 |.exit id,_,F,H,Q=>Q (.exit id) F H
 |.ret,_,F,H,Q=>Q .ret F H
 |.seq a b,x,F,H,Q=>WpR a x F H λe F H=>match e with|.normal=>WpR b x F H Q|e=>Q e F H
 |.block id b,x,F,H,Q=>WpR b { x with cur:=id } F H (bk id Q)
 |.scope b,x,F,H,Q=>WpR b x F H Q
 |c,x,F,H,Q=>∃e F' H',Ev x c F H (e,F',H')∧Q e F' H'
def Wp(x:Cx)(c:Code)(F:Frm)(H:a09)(Q:b4f):Prop:=WpR c x F H Q
def sq(x:Cx)(b:Code)(Q:b4f):b4f:=λe F H=>match e with|.normal=>Wp x b F H Q|e=>Q e F H
def cx(E:Env)(M:List Fact)(m N:Nat)(g:FuncId)(cur:Nat):Cx:=⟨E,M,m,N,E.keep g,cur⟩
def lp{σ:Type}(m:Nat)(keep:List Nat)(Fs:σ→Frm)(Hs:σ→a09)(meas:σ→Nat)(Inv:σ→Prop)(n:Nat)(Q:b4f):b4f:=λe F H=>match e with|.normal=>∃s,gcD m keep F H=some (Fs s,Hs s)∧meas s<n∧Inv s|e=>Q e F H
def fq(E:Env)(g:FuncId)(m:Nat)(results:List ResultVar)(r:AV×a09):b4f:=λe F H=>match e with|.exit _=>False|_=>∃vs,a1p E F H results=some vs∧a5p (E.thaw g) m (a7i vs) H=some r
def lpJ(m:Nat)(keep:List Nat)(J:Nat→Frm→a09→Prop)(n:Nat)(Q:b4f):b4f:=λe F H=>match e with|.normal=>∃F1 H1 n',gcD m keep F H=some (F1,H1)∧n'<n∧J n' F1 H1|e=>Q e F H
@[irreducible] def c8h:AV→Option Bool|.bool b=>some b|_=>none
@[go_sem] theorem e1o:c8h (.bool true)=some true:=by unfold c8h;rfl
@[go_sem] theorem e1p:c8h (.bool false)=some false:=by unfold c8h;rfl
theorem d0i{v:AV}{t:Bool}(h:c8h v=some t):v = .bool t:=by
 unfold c8h at h;split at h
 ·cases h;rfl
 ·cases h
def hs(E:Env)(M:List Fact)(N:Nat):Code→Frm→a09→Frm→a09→List LogE→Bool→Prop
 |.region id ops draw,F,H,F1,H1,log,t=>(a8c E draw N (sem E M) ops.toList ops.toList [] F H,true)=(some (F1,H1,log),t)
 |.cond c a b,F,H,F1,H1,log,t=>(c8h (opv E F c),F,H,[])=(some t,F1,H1,log)
 |_,_,_,_,_,_,_=>False
def sd:Code→List LogE→Bool
 |.region id ops draw,log=>!draw||logOk ops.toList log.length log
 |_,_=>true
def ct(x:Cx):Code→Bool→Frm→a09→b4f→Prop
 |.region id ops draw,t,F,H,Q=>Q .normal F H
 |.cond c a b,t,F,H,Q=>Wp x (bif t then a else b) F H Q
 |_,_,_,_,_=>False
@[go_sem] theorem e4n(E:Env)(M:List Fact)(N:Nat)(id ops draw F H F1 H1 log t):hs E M N (.region id ops draw) F H F1 H1 log t=((a8c E draw N (sem E M) ops.toList ops.toList [] F H,true)=(some (F1,H1,log),t)):=by rfl
@[go_sem] theorem e4o(E:Env)(M:List Fact)(N:Nat)(c a b F H F1 H1 log t):hs E M N (.cond c a b) F H F1 H1 log t=((c8h (opv E F c),F,H,[])=(some t,F1,H1,log)):=by rfl
theorem wx:(∀x id ops draw t F H Q,ct x (.region id ops draw) t F H Q=Q .normal F H)∧(∀x c a b F H Q,ct x (.cond c a b) true F H Q=Wp x a F H Q)∧(∀x c a b F H Q,ct x (.cond c a b) false F H Q=Wp x b F H Q):=⟨λ_ _ _ _ _ _ _ _=>rfl,λ_ _ _ _ _ _ _=>rfl,λ_ _ _ _ _ _ _=>rfl⟩
theorem ww:(∀x F H Q,Wp x .skip F H Q=Q .normal F H)∧(∀x F H Q l,Wp x (.label l) F H Q=Q .normal F H)∧(∀x F H Q i,Wp x (.exit i) F H Q=Q (.exit i) F H)∧(∀x F H Q,Wp x .ret F H Q=Q .ret F H)∧
 (∀x a b F H Q,Wp x (.seq a b) F H Q=Wp x a F H (sq x b Q))∧(∀E M m N g cur i b F H Q,Wp (cx E M m N g cur) (.block i b) F H Q=Wp (cx E M m N g i) b F H (bk i Q))∧(∀x b F H Q,Wp x (.scope b) F H Q=Wp x b F H Q)∧
 (∀x b F H Q,sq x b Q .normal F H=Wp x b F H Q)∧(∀x b F H Q i,sq x b Q (.exit i) F H=Q (.exit i) F H)∧(∀x b F H Q,sq x b Q .ret F H=Q .ret F H)∧
 (∀i F H Q,bk i Q .normal F H=Q .normal F H)∧(∀i F H Q,bk i Q .ret F H=Q .ret F H)∧(∀i F H Q,bk i Q (.exit i) F H=Q .normal F H)∧(∀i j F H Q,(j=i)=False→bk i Q (.exit j) F H=Q (.exit j) F H)∧
 (∀m keep J n Q i F H,lpJ m keep J n Q (.exit i) F H=Q (.exit i) F H)∧(∀m keep J n Q F H,lpJ m keep J n Q .ret F H=Q .ret F H)∧
 (∀(σ:Type) m keep (Fs:σ→Frm) Hs meas Inv n Q i F H,lp m keep Fs Hs meas Inv n Q (.exit i) F H=Q (.exit i) F H)∧(∀(σ:Type) m keep (Fs:σ→Frm) Hs meas Inv n Q F H,lp m keep Fs Hs meas Inv n Q .ret F H=Q .ret F H)∧
 (∀a b:Code,cond true a b=a)∧(∀a b:Code,cond false a b=b)∧
 (∀x id ops draw t F H Q,ct x (.region id ops draw) t F H Q=Q .normal F H)∧(∀x c a b F H Q,ct x (.cond c a b) true F H Q=Wp x a F H Q)∧(∀x c a b F H Q,ct x (.cond c a b) false F H Q=Wp x b F H Q):=
 ⟨λ_ _ _ _=>rfl,λ_ _ _ _ _=>rfl,λ_ _ _ _ _=>rfl,λ_ _ _ _=>rfl,λ_ _ _ _ _ _=>rfl,λ_ _ _ _ _ _ _ _ _ _ _=>rfl,λ_ _ _ _ _=>rfl,λ_ _ _ _ _=>rfl,λ_ _ _ _ _ _=>rfl,λ_ _ _ _ _=>rfl,
  λ_ _ _ _=>rfl,λ_ _ _ _=>rfl,λi F H Q=>by simp only[bk,if_pos],λi j F H Q h=>by simp only[bk,h,if_false],λ_ _ _ _ _ _ _ _=>rfl,λ_ _ _ _ _ _ _=>rfl,λ_ _ _ _ _ _ _ _ _ _ _ _=>rfl,λ_ _ _ _ _ _ _ _ _ _ _=>rfl,λ_ _=>rfl,λ_ _=>rfl,wx⟩
theorem b79:∀(c:Code) {x:Cx} {F:Frm} {H:a09} {Q:b4f},Wp x c F H Q→∃e F' H',Ev x c F H (e,F',H')∧Q e F' H':=by
 intro c
 induction c with
 |skip=>intro x F H Q h;exact⟨_,_,_,Ev.skip,h⟩
 |label l=>intro x F H Q h;exact⟨_,_,_,Ev.label,h⟩
 |exit i=>intro x F H Q h;exact⟨_,_,_,Ev.leave,h⟩
 |ret=>intro x F H Q h;exact⟨_,_,_,Ev.ret,h⟩
 |seq a b iha ihb=>
  intro x F H Q h;obtain⟨e,F',H',h1,h2⟩:=iha h;cases e with
  |normal=>obtain⟨e2,F2,H2,h3,h4⟩:=ihb h2;exact⟨e2,F2,H2,Ev.seq h1 h3,h4⟩
  |exit id=>exact⟨_,_,_,Ev.seq_exit h1,h2⟩
  |ret=>exact⟨_,_,_,Ev.seq_ret h1,h2⟩
 |block id b ih=>
  intro x F H Q h;obtain⟨e,F',H',h1,h2⟩:=ih h;cases e with
  |normal=>exact⟨_,_,_,Ev.block h1,h2⟩
  |exit i=>
   by_cases hi:i=id
   ·subst hi;simp only[bk,if_pos]at h2;exact⟨_,_,_,Ev.block_exit h1,h2⟩
   ·simp only[bk,if_neg hi]at h2;exact⟨_,_,_,Ev.block_on h1 (by simpa using hi),h2⟩
  |ret=>exact⟨_,_,_,Ev.block_ret h1,h2⟩
 |scope b ih=>intro x F H Q h;obtain⟨e,F',H',h1,h2⟩:=ih h;exact⟨e,F',H',Ev.scope h1,h2⟩
 |_=>intro x F H Q h;exact h
theorem c99:∀{c:Code} {x:Cx} {F:Frm} {H:a09} {Q Q':b4f},Wp x c F H Q→(∀e F H,Q e F H→Q' e F H)→Wp x c F H Q':=by
 intro c
 induction c with
 |skip=>intro x F H Q Q' h hq;exact hq _ _ _ h
 |label l=>intro x F H Q Q' h hq;exact hq _ _ _ h
 |exit i=>intro x F H Q Q' h hq;exact hq _ _ _ h
 |ret=>intro x F H Q Q' h hq;exact hq _ _ _ h
 |seq a b iha ihb=>
  intro x F H Q Q' h hq;refine iha (Q:=sq x b Q) (Q':=sq x b Q') h ?_;intro e F H h;cases e with
  |normal=>exact ihb (x:=x) h hq
  |exit id=>exact hq _ _ _ h
  |ret=>exact hq _ _ _ h
 |block id b ih=>
  intro x F H Q Q' h hq;refine ih (Q:=bk id Q) (Q':=bk id Q') h ?_;intro e F H h;cases e with
  |normal=>exact hq _ _ _ h
  |exit i=>
   simp only[bk]at h⊢;split
   ·rename_i hi;rw[if_pos hi]at h;exact hq _ _ _ h
   ·rename_i hi;rw[if_neg hi]at h;exact hq _ _ _ h
  |ret=>exact hq _ _ _ h
 |scope b ih=>intro x F H Q Q' h hq;exact ih (x:=x) h hq
 |_=>intro x F H Q Q' h hq;obtain⟨e,F',H',h1,h2⟩:=h;exact⟨e,F',H',h1,hq _ _ _ h2⟩
section
variable {x:Cx}{F F1:Frm}{H H1:a09}{Q:b4f}
theorem xs{E:Env}{M:List Fact}{m N:Nat}{g:FuncId}{cur:Nat}{id ops draw}{log:List LogE}(h:a8c E draw N (sem E M) ops.toList ops.toList [] F H=some (F1,H1,log))(hl:(!draw||logOk ops.toList log.length log)=true)(hq:Q .normal F1 H1):Wp (cx E M m N g cur) (.region id ops draw) F H Q:=⟨_,_,_,Ev.region h hl,hq⟩
theorem xI{E:Env}{M:List Fact}{m N:Nat}{g:FuncId}{cur:Nat}{c a b t}(hc:opv E F c = .bool t)(h:Wp (cx E M m N g cur) (bif t then a else b) F H Q):Wp (cx E M m N g cur) (.cond c a b) F H Q:=by
 cases t
 ·obtain⟨e,F',H',h1,h2⟩:=b79 _ h;exact⟨e,F',H',Ev.cond_f hc h1,h2⟩
 ·obtain⟨e,F',H',h1,h2⟩:=b79 _ h;exact⟨e,F',H',Ev.cond_t hc h1,h2⟩
theorem d3e{E:Env}{M:List Fact}{m N:Nat}{g:FuncId}{cur:Nat}{keep:List Nat}{b:Code}(hk:E.keep g cur=keep)(J:Nat→Frm→a09→Prop)(n0:Nat)(h0:∃F1 H1,gcD m keep F H=some (F1,H1)∧J n0 F1 H1)
 (h:∀n F1 H1,J n F1 H1→Wp (cx E M m N g cur) b F1 H1 (lpJ m keep J n Q)):∃r:AExit×Frm×a09,Q r.1 r.2.1 r.2.2∧EvL (cx E M m N g cur) b F H r:=by
 subst hk;have key:∀n F H F1 H1,gcD m (E.keep g cur) F H=some (F1,H1)→J n F1 H1→∃r:AExit×Frm×a09,Q r.1 r.2.1 r.2.2∧EvL (cx E M m N g cur) b F H r:=by
  intro n
  induction n using Nat.strongRecOn with
  |ind n ih=>
   intro F H F1 H1 hg hJ;obtain⟨e,F',H',h1,h2⟩:=b79 _ (h n F1 H1 hJ);cases e with
   |normal=>obtain⟨F2,H2,n',g1,g2,g3⟩:=h2;obtain⟨r,hr,hl⟩:=ih n' g2 F' H' F2 H2 g1 g3;exact⟨r,hr,EvL.again (x:=cx E M m N g cur) hg h1 hl⟩
   |exit id=>exact⟨(_,_,_),h2,EvL.leave (x:=cx E M m N g cur) hg h1 (λh=>by cases h)⟩
   |ret=>exact⟨(_,_,_),h2,EvL.leave (x:=cx E M m N g cur) hg h1 (λh=>by cases h)⟩
 obtain⟨F1,H1,hg,hJ⟩:=h0;exact key n0 F H F1 H1 hg hJ
theorem c64{E:Env}{M:List Fact}{m N:Nat}{g:FuncId}{cur:Nat}{keep:List Nat}{b:Code}(hk:E.keep g cur=keep)(J:Nat→Frm→a09→Prop)(n0:Nat)(h0:∃F1 H1,gcD m keep F H=some (F1,H1)∧J n0 F1 H1)
 (h:∀n F1 H1,J n F1 H1→Wp (cx E M m N g cur) b F1 H1 (lpJ m keep J n Q))(hz:d2v keep=false:=by rfl)(hx:a9g b=none:=by rfl):Wp (cx E M m N g cur) (.loop b) F H Q:=by
 obtain⟨⟨e,F',H'⟩,hr,hl⟩:=d3e hk J n0 h0 h;exact⟨e,F',H',Ev.loop hx (by rw[←hk]at hz;exact hz) hl,hr⟩
def fz(m:Nat)(Q:b4f):b4f:=λe F H=>Q e (c4m m H F) (c2k m H)
theorem a0i{E:Env}{M:List Fact}{m N:Nat}{g:FuncId}{cur:Nat}{keep:List Nat}{b:Code}(hk:E.keep g cur=keep){σ:Type}(Fs:σ→Frm)(Hs:σ→a09)(meas:σ→Nat)(Inv:σ→Prop)(s0:σ)(h0:gcD m keep F H=some (Fs s0,Hs s0))(hi:Inv s0)
 (h:∀s,Inv s→Wp (cx E M m N g cur) b (Fs s) (Hs s) (lp m keep Fs Hs meas Inv (meas s) Q))(hz:d2v keep=false:=by rfl)(hx:a9g b=none:=by rfl):Wp (cx E M m N g cur) (.loop b) F H Q:=by
 refine c64 hk (λn F1 H1=>∃s,F1=Fs s∧H1=Hs s∧n=meas s∧Inv s) (meas s0) ⟨_,_,h0,s0,rfl,rfl,rfl,hi⟩ ?_ hz hx
 rintro n F1 H1 ⟨s,rfl,rfl,rfl,hs⟩
 refine c99 (h s hs) ?_;intro e F' H' h2;cases e with
 |normal=>obtain⟨s',g1,g2,g3⟩:=h2;exact⟨_,_,_,g1,g2,s',rfl,rfl,rfl,g3⟩
 |exit id=>exact h2
 |ret=>exact h2
theorem a1s{σ:Type}{m:Nat}{keep:List Nat}{Fs:σ→Frm}{Hs:σ→a09}{meas:σ→Nat}{Inv:σ→Prop}{n:Nat}(s:σ)(h1:gcD m keep F H=some (Fs s,Hs s))(h2:meas s<n)(h3:Inv s):lp m keep Fs Hs meas Inv n Q .normal F H:=⟨s,h1,h2,h3⟩
end
theorem d43{E:Env}{M:List Fact}{g:FuncId}{args:List AV}{H:a09}{code:Code}{N:Nat}{results:List ResultVar}{r:AV×a09}
 (hfn:E.fn g=some ⟨code,N,results⟩)(hno:∀y∈M,y.g≠g)(hN:Nat.ble args.length N=true){m:Nat}(hm:H.length=m)(h:Wp (cx E M m N g 0) code (a3k 0 args) H (fq E g m results r))(hp:E.prim g args=none:=by rfl)(hz:E.zf g=false:=by rfl)(hw:E.raw g=false:=by rfl):sem E M g args H=some r:=by
 subst hm;obtain⟨e,F',H',h1,h2⟩:=b79 _ h;obtain⟨v,H2⟩:=r;cases e with
 |normal=>obtain⟨vs,h3,h4⟩:=h2;exact c04 hfn hno hN h1 (λ_ h=>by cases h) h3 h4 hp hz hw
 |ret=>obtain⟨vs,h3,h4⟩:=h2;exact c04 hfn hno hN h1 (λ_ h=>by cases h) h3 h4 hp hz hw
 |exit id=>exact h2.elim
theorem xa{E:Env}{M:List Fact}{m N:Nat}{g:FuncId}{cur:Nat}{c:Code}{F F1:Frm}{H H1:a09}{log:List LogE}{t:Bool}{Q:b4f}(h:hs E M N c F H F1 H1 log t)(hl:sd c log=true)(k:ct (cx E M m N g cur) c t F1 H1 Q):Wp (cx E M m N g cur) c F H Q:=by
 cases c with
 |region id ops draw=>exact xs (congrArg Prod.fst h) hl k
 |cond c a b=>have h1:opv E F c = .bool t:=d0i (congrArg Prod.fst h);have h2:(F,H,([]:List LogE))=(F1,H1,log):=congrArg Prod.snd h;cases h2;exact xI h1 k
 |_=>exact k.elim
theorem gS:(∀a b:Code,(some a).getD b=a)∧(∀l:List ResultVar,(List.toArray l).toList=l):=⟨λ_ _=>rfl,λ_=>rfl⟩
def AExit.fin:AExit→Bool
 |.exit _=>false
 |_=>true
@[go_sem] theorem e3d:AExit.ret.fin=true:=by rfl
@[go_sem] theorem e3e:AExit.normal.fin=true:=by rfl
theorem fqb{E:Env}{g:FuncId}{m:Nat}{results:List ResultVar}{r:AV×a09}{e:AExit}{F:Frm}{H:a09}(h:(bif e.fin then a17 (a1p E F H results) λvs=>a5p (E.thaw g) m (a7i vs) H else none)=some r):fq E g m results r e F H:=by
 cases ha:a1p E F H results with
 |none=>rw[ha]at h;cases e<;>cases h
 |some vs=>
  rw[ha]at h;cases e with
  |exit i=>cases h
  |_=>exact⟨vs,ha,h⟩
theorem sv{E:Env}{M:List Fact}{g:FuncId}{args:List AV}{H:a09}{r:AV×a09}(f:Func)(h:Wp (cx E M H.length f.ntmps g 0) (f.body.getD .skip) (a3k 0 args) H (fq E g H.length f.results.toList r))(hfn:E.fn g=some ⟨f.body.getD .skip,f.ntmps,f.results.toList⟩:=by kernel_rfl)
 (hno:(M.all λy=>!Nat.beq y.g g)=true:=by rfl)(hN:Nat.ble args.length f.ntmps=true:=by rfl)(hp:E.prim g args=none:=by rfl)(hz:E.zf g=false:=by rfl)(hw:E.raw g=false:=by rfl):sem E M g args H=some r:=d43 hfn (λy hy e=>by
 have:=List.all_eq_true.1 hno y hy;rw[e]at this;simp at this) hN rfl h hp hz hw
end Go.Ax
/- AxRead: what the row's reading of an argument gives: abstract values of the argument's type. -/
namespace Go.Ax
def Typ(E:Env):Nat→TypeId→List AV→Prop
 |0,_,_=>False
 |n+1,t,avs=>match E.und t with
  |some .bool=>∃b,avs=[.bool b]
  |some (.int k)=>∃i,avs=[.int k i]∧(Lit.int k i).wf=true
  |some .string=>∃s,avs=[.str s]∧s.length≤maxLen
  |some (.slice e)=>avs=[.nilslice]∨∃rows cap,avs=[.islice rows (some cap)]∧rows.length≤cap∧cap≤maxLen∧∀r∈rows,r.length=E.sz e∧Typ E n e r
  |some (.struct fs)=>∃parts:List (List AV),avs=parts.flatten∧parts.length=fs.toList.length∧∀(i:Nat) f p,fs.toList[i]?=some f→parts[i]?=some p→p.length=E.sz f.type∧Typ E n f.type p
  |some (.array m e)=>∃parts:List (List AV),avs=parts.flatten∧parts.length=m∧∀p∈parts,p.length=E.sz e∧Typ E n e p
  |_=>False
def c32(E:Env):Nat→List Field→Option Nat
 |o,[]=>some o
 |o,f::r=>bif Nat.beq f.offset o then c32 E (o+E.sz f.type) r else none
def a4l(E:Env):Nat→TypeId→Bool
 |0,_=>false
 |n+1,t=>match E.und t with
  |some .bool=>true
  |some (.int _)=>true
  |some .string=>true
  |some (.slice e)=>(E.und e).isSome&&Nat.blt 0 (E.sz e)&&a4l E n e
  |some (.struct fs)=>(match c32 E 0 fs.toList with|some m=>Nat.beq m (E.sz t)|none=>false)&&fs.toList.all (λf=>(E.und f.type).isSome&&a4l E n f.type)
  |some (.array m e)=>(E.und e).isSome&&Nat.beq (m*E.sz e) (E.sz t)&&a4l E n e
  |_=>false
section
variable {E:Env}{w:World}{H:Type}{enc:TypeId×Value→H}{base:Nat}{spare:Nat→Bool}{held:Bool}
theorem a3u(ok:EnvOk E){t:TypeId}{d:TypeDesc}(h:E.und t=some d):E.P.cellsOf t=E.sz t:=by obtain⟨_,i,hi,h1,_⟩:=ok.und t d h;simp[Program.cellsOf,hi,h1]
theorem c3e{I:Nat→Prop}{k:Nat}{b:Nat}{Pr:List AV→Prop}:∀(len off:Nat),(∀i,i<len→∃r,Pr r∧r.length=k∧VAt I w noP r b (off+i*k))→
 ∃rows:List (List AV),rows.length=len∧(∀r∈rows,r.length=k∧Pr r)∧VRows I w k noP rows b off
 |0,off,_=>⟨[],rfl,by simp,by simp[VRows]⟩
 |len+1,off,h=>by
  obtain⟨r,h1,h2,h3⟩:=h 0 (by omega);obtain⟨rows,g1,g2,g3⟩:=c3e (Pr:=Pr) len (off+k) (λi hi=>by obtain⟨r,q1,q2,q3⟩:=h (i+1) (by omega);refine⟨r,q1,q2,?_⟩;rw[show off+k+i*k=off+(i+1)*k by rw[Nat.add_mul];omega];exact q3);refine⟨r::rows,by simp[g1],?_,?_⟩
  ·intro x hx;simp only[List.mem_cons]at hx;rcases hx with rfl|hx
   ·exact⟨h2,h1⟩
   ·exact g2 x hx
  ·simp only[VRows];exact⟨h2,by simpa using h3,g3⟩
theorem c0e{I:Nat→Prop}{cs:List Value}{n:Nat}:∀(fs:List Field) (o:Nat) {m:Nat},c32 E o fs=some m→m≤cs.length→
 (∀f∈fs,∃avs,VRels I w noP avs ((cs.drop f.offset).take (E.sz f.type))∧Typ E n f.type avs)→
 o≤m∧∃parts:List (List AV),parts.length=fs.length∧(∀(i:Nat) f p,fs[i]?=some f→parts[i]?=some p→p.length=E.sz f.type∧Typ E n f.type p)∧VRels I w noP parts.flatten ((cs.drop o).take (m-o))
 | [],o,m,ht,hm,_=>by simp only[c32,Option.some.injEq]at ht;subst ht;exact⟨Nat.le_refl _,[],rfl,by simp,by simp[VRels]⟩
 |f::r,o,m,ht,hm,h=>by
  simp only[c32,cond_eq_ite]at ht;split at ht
  case isFalse=>cases ht
  rename_i hfo;have hfo:f.offset=o:=by simpa using hfo
  obtain⟨hle,parts,h1,h2,h3⟩:=c0e r (o+E.sz f.type) ht hm (λg hg=>h g (by simp[hg]));obtain⟨avs,g1,g2⟩:=h f (by simp);rw[hfo]at g1;have hlen:avs.length=E.sz f.type:=by have:=VRels.length g1;rw[this];simp;omega
  refine⟨by omega,avs::parts,by simp[h1],?_,?_⟩
  ·intro i g p hg hp;cases i with
   |zero=>simp only[List.getElem?_cons_zero,Option.some.injEq]at hg hp;subst hg;subst hp;exact⟨hlen,g2⟩
   |succ i=>simp only[List.getElem?_cons_succ]at hg hp;exact h2 i g p hg hp
  ·simp only[List.flatten_cons];have:(cs.drop o).take (m-o)=(cs.drop o).take (E.sz f.type)++(cs.drop (o+E.sz f.type)).take (m-(o+E.sz f.type)):=by
    rw[show m-o=E.sz f.type+(m-(o+E.sz f.type)) by omega,List.take_add,List.drop_drop]
   rw[this];exact VRels.append g1 h3
theorem c91{I:Nat→Prop}{cs:List Value}{n k:Nat}{e:TypeId}:∀(m o:Nat),o+m*k≤cs.length→
 (∀i,i<m→∃avs,VRels I w noP avs ((cs.drop (o+i*k)).take k)∧Typ E n e avs)→
 ∃parts:List (List AV),parts.length=m∧(∀p∈parts,p.length=k∧Typ E n e p)∧VRels I w noP parts.flatten ((cs.drop o).take (m*k))
 |0,o,_,_=>⟨[],rfl,by simp,by simp[VRels]⟩
 |m+1,o,hl,h=>by
  have hmk:(m+1)*k=k+m*k:=by rw[Nat.add_mul];omega
  obtain⟨parts,h1,h2,h3⟩:=c91 (cs:=cs) (k:=k) (e:=e) m (o+k) (by omega) (λi hi=>by obtain⟨avs,g1,g2⟩:=h (i+1) (by omega);refine⟨avs,?_,g2⟩;rw[show o+k+i*k=o+(i+1)*k by rw[Nat.add_mul];omega];exact g1);obtain⟨avs,g1,g2⟩:=h 0 (by omega);rw[Nat.zero_mul,Nat.add_zero]at g1;have hlen:avs.length=k:=by have:=VRels.length g1;rw[this];simp;omega
  refine⟨avs::parts,by simp[h1],?_,?_⟩
  ·intro p hp;simp only[List.mem_cons]at hp;rcases hp with rfl|hp
   ·exact⟨hlen,g2⟩
   ·exact h2 p hp
  ·simp only[List.flatten_cons];rw[hmk,List.take_add,List.drop_drop];exact VRels.append g1 h3
theorem b6h{α β:Type}{f:α→Option β}{l:List α}{r:List β}(h:l.mapM f=some r):∀x∈l,∃y,f x=some y:=by
 induction l generalizing r with
 |nil=>simp
 |cons a l ih=>
  rw[List.mapM_cons]at h;intro x hx;cases hfa:f a with
  |none=>simp[hfa]at h
  |some y=>
   simp only[hfa,Option.bind_eq_bind,Option.bind_some]at h;cases hl:l.mapM f with
   |none=>simp[hl]at h
   |some r'=>
    simp only[List.mem_cons]at hx;rcases hx with rfl|hx
    ·exact⟨y,hfa⟩
    ·exact ih hl x hx
theorem b3q{I:Nat→Prop}{avs:List AV}{cs:List Value}{b off:Nat}(hc:∀i v,cs[i]?=some v→w.cell? ⟨b,off+i,none⟩=some v)(h:VRels I w noP avs cs):VAt I w noP avs b off:=VAt.of_cells (λi v hv=>hc i v hv) h
theorem c3k(ok:EnvOk E):∀(n:Nat) (t:TypeId),a4l E n t=true→∀(fuel:Nat) (cs:List Value) (x:DataW H×List MemPlace),DataW.trod enc E.P w base spare held fuel t cs=some x→
 ∃avs,VRels (Old w) w noP avs cs∧Typ E n t avs
 |0,t,hr=>by simp[a4l]at hr
 |n+1,t,hr=>by
  intro fuel cs x h;cases fuel with
  |zero=>simp[DataW.trod]at h
  |succ fuel=>
  have ih:=c3k ok n;unfold a4l at hr;unfold DataW.trod at h;cases hu:E.und t with
  |none=>rw[hu]at hr;simp at hr
  |some d=>
   have hP:=(ok.und t d hu).1;have hsz:=a3u ok hu;rw[hu]at hr;rw[hP]at h;cases d<;>simp only[Bool.false_eq_true]at hr
   case bool=>
    obtain⟨b,rfl⟩:∃b,cs=[.bool b]:=by split at h<;>simp_all
    exact⟨[.bool b],by simp[VRels,VRel],by simp[Typ,hu]⟩
   case int k=>
    obtain⟨i,rfl,hw⟩:∃i,cs=[.int k i]∧(Lit.int k i).wf=true:=by split at h<;>simp_all
    exact⟨[.int k i],by simp[VRels,VRel],by simp[Typ,hu,hw]⟩
   case string=>
    obtain⟨b,rfl,hw⟩:∃b:ByteArray,cs=[.string b]∧b.size≤maxLen:=by split at h<;>simp_all
    exact⟨[.str b.data.toList],by simp[VRels,VRel],by simp only[Typ,hu];exact⟨_,rfl,by simpa using hw⟩⟩
   case slice e=>
    simp only[Bool.and_eq_true,Nat.blt_eq]at hr;obtain⟨⟨hr1,hr2⟩,hr3⟩:=hr;obtain⟨de,hde⟩:=Option.isSome_iff_exists.1 hr1;have hsze:=a3u ok hde;have hkey:cs=[.slice none 0 0]∨∃a len cap,cs=[.slice (some a) len cap]∧len≤cap∧cap≤maxLen∧
     ∃elems,((List.range len).mapM λi=>(w.cells? base (a.add (i*E.P.cellsOf e)) (E.P.cellsOf e)).bind (DataW.trod enc E.P w base spare held fuel e))=some elems:=by
     split at h
     all_goals first|(rename_i heq;cases heq;done)|(cases h;done)|skip
     ·left;rfl
     ·rename_i e' a len cap heq;cases heq;dsimp only at h;split at h
      case isFalse=>cases h
      rename_i hc;right;refine⟨a,len,cap,rfl,hc.2.1,hc.2.2,?_⟩;cases hm:((List.range len).mapM λi=>(w.cells? base (a.add (i*E.P.cellsOf e)) (E.P.cellsOf e)).bind (DataW.trod enc E.P w base spare held fuel e))with
      |none=>rw[hm]at h;simp at h
      |some elems=>exact⟨elems,rfl⟩
    rcases hkey with rfl|⟨a,len,cap,rfl,hlc,hcm,elems,hel⟩
    ·exact⟨[.nilslice],by simp[VRels,VRel],by simp only[Typ,hu];exact .inl trivial⟩
    ·have hrow:∀i,i<len→∃r,Typ E n e r∧r.length=E.sz e∧VAt (Old w) w noP r a.block (a.off+i*E.sz e)∧a.spot=none∧a.block<w.heap.size:=by
      have hat:∀i,i<len→∃cs' y,cs'.length=E.sz e∧(∀j,j<E.sz e→w.cell? ((a.add (i*E.sz e)).add j)=cs'[j]?)∧DataW.trod enc E.P w base spare held fuel e cs'=some y:=by
       intro i hi;obtain⟨y,hy⟩:=b6h hel i (by simpa using hi);rw[hsze]at hy;cases hc:w.cells? base (a.add (i*E.sz e)) (E.sz e)with
       |none=>rw[hc]at hy;simp at hy
       |some cs'=>rw[hc]at hy;obtain⟨_,h2,h3⟩:=World.cells?_some hc;exact⟨cs',y,h2,h3,by simpa using hy⟩
      intro i hi;have hspot:a.spot=none∧a.block<w.heap.size:=by
       obtain⟨cs0,y0,h1,h2,_⟩:=hat 0 (by omega);have h3:=h2 0 hr2;rw[Nat.zero_mul,show(a.add 0).add 0=a from by simp[Addr.add],z9e (by omega)]at h3;unfold World.cell? at h3;split at h3
       ·rename_i hb;refine⟨?_,(Array.getElem?_eq_some_iff.1 hb).1⟩;cases hs:a.spot with
        |none=>rfl
        |some _=>rw[hs]at h3;simp at h3
       ·cases h3
      obtain⟨cs',y,h1,h2,h3⟩:=hat i hi;obtain⟨r,q1,q2⟩:=ih e hr3 fuel cs' y h3;refine⟨r,q2,by rw[VRels.length q1,h1],b3q ?_ q1,hspot⟩;intro j v hv;have hj:j<E.sz e:=by rw[←h1];exact(List.getElem?_eq_some_iff.1 hv).1
      have:=h2 j hj;rw[hv]at this;rw[←this]
      congr 1
      obtain⟨ab,ao,as⟩:=a;obtain⟨rfl,_⟩:=hspot;unfold Addr.add;split<;>split<;>simp_all
     obtain⟨rows,g1,g2,g3⟩:=c3e (Pr:=Typ E n e) len a.off (λi hi=>by obtain⟨r,q1,q2,q3,_⟩:=hrow i hi;exact⟨r,q1,q2,q3⟩);refine⟨[.islice rows (some cap)],?_,by simp only[Typ,hu];exact .inr ⟨rows,cap,rfl,by omega,hcm,g2⟩⟩;simp only[VRels];refine⟨_,[],rfl,?_,rfl⟩;simp only[VRel];refine⟨a,cap,E.sz e,by rw[g1],by omega,by simp,?_⟩;cases len with
     |zero=>exact .inl (List.length_eq_zero_iff.1 g1)
     |succ len=>obtain⟨_,_,_,_,q4,q5⟩:=hrow 0 (by omega);exact .inr ⟨q4,q5,g3⟩
   case struct fs=>
    simp only[Bool.and_eq_true,List.all_eq_true]at hr;obtain⟨hr1,hr2⟩:=hr;split at hr1
    case h_2=>cases hr1
    rename_i m hm;have hmt:m=E.sz t:=by simpa using hr1
    have hkey:cs.length=E.P.cellsOf t∧∃xs,(fs.toList.mapM λf=>DataW.trod enc E.P w base spare held fuel f.type ((cs.drop f.offset).take (E.P.cellsOf f.type)))=some xs:=by
     dsimp only at h;split at h
     ·rename_i hl;obtain⟨xs,hxs,_⟩:=a0f h;exact⟨hl,xs,hxs⟩
     ·cases h
    obtain⟨hlen,xs,hxs⟩:=hkey;obtain⟨_,parts,h1,h2,h3⟩:=c0e (E:=E) (I:=Old w) (w:=w) (cs:=cs) (n:=n) fs.toList 0 hm (by omega) (λf hf=>by obtain⟨y,hy⟩:=b6h hxs f hf;have h2:=hr2 f hf;obtain⟨df,hdf⟩:=Option.isSome_iff_exists.1 h2.1;rw[a3u ok hdf]at hy;exact ih f.type h2.2 fuel _ _ hy);refine⟨parts.flatten,?_,by simp only[Typ,hu];exact⟨parts,rfl,h1,h2⟩⟩;rw[List.drop_zero,Nat.sub_zero,List.take_of_length_le (by omega)]at h3;exact h3
   case array m e=>
    simp only[Bool.and_eq_true]at hr;obtain⟨⟨hr1,hr2⟩,hr3⟩:=hr;obtain⟨de,hde⟩:=Option.isSome_iff_exists.1 hr1;have hsze:=a3u ok hde;have hmk:m*E.sz e=E.sz t:=by simpa using hr2
    have hkey:cs.length=E.P.cellsOf t∧∃xs,((List.range m).mapM λi=>DataW.trod enc E.P w base spare held fuel e ((cs.drop (i*E.P.cellsOf e)).take (E.P.cellsOf e)))=some xs:=by
     dsimp only at h;split at h
     ·rename_i hl;obtain⟨xs,hxs,_⟩:=a0f h;exact⟨hl,xs,hxs⟩
     ·cases h
    obtain⟨hlen,xs,hxs⟩:=hkey;obtain⟨parts,h1,h2,h3⟩:=c91 (E:=E) (I:=Old w) (w:=w) (cs:=cs) (n:=n) (k:=E.sz e) (e:=e) m 0 (by omega) (λi hi=>by obtain⟨y,hy⟩:=b6h hxs i (by simpa using hi);rw[hsze]at hy;rw[Nat.zero_add];exact ih e hr3 fuel _ _ hy);refine⟨parts.flatten,?_,by simp only[Typ,hu];exact⟨parts,rfl,h1,h2⟩⟩;rw[List.drop_zero,List.take_of_length_le (by omega)]at h3;exact h3
end
end Go.Ax
/- AxArgs: a row's arguments as abstract values. -/
namespace Go.Ax
def d3a(E:Env)(n:Nat)(t:TypeId)(av:AV):Prop:=
 match E.und t with
 |some d=>bif a2m d then ∃avs,av = .agg avs∧Typ E n t avs else Typ E n t [av]
 |none=>False
def TypAs(E:Env)(n:Nat):List TypeId→List AV→Prop
 | [],avs=>avs=[]
 |t::ts,avs=>∃a r,avs=a::r∧d3a E n t a∧TypAs E n ts r
section
variable {E:Env}{w:World}{H:Type}{enc:TypeId×Value→H}{spare:Nat→Bool}{held:Bool}{b0:Nat}
theorem d6g(ok:EnvOk E){n:Nat}{t:TypeId}{v:Value}{d:DataW H}{ps:List MemPlace}(hr:a4l E n t=true)(hv:Value.okWide E.P w .any b0 t v)(h:DataW.Trod enc E.P w 0 spare held t v d ps) :
 ∃a,VRel (Old w) w noP a v∧d3a E n t a:=by
 obtain⟨fuel,hf⟩:=h;obtain⟨avs,h1,h2⟩:=c3k ok n t hr fuel _ _ hf;cases hu:E.und t with
 |none=>cases n<;>simp[a4l,hu]at hr
 |some dd=>
  have hP:=(ok.und t dd hu).1;unfold Value.okWide at hv;rw[hP]at hv;cases hag:a2m dd with
  |true=>
   have hv:∃cs,v = .agg cs∧cs.size=E.P.cellsOf t∧Row.okWide E.P w .any b0 t cs:=by cases dd<;>simp[a2m]at hag<;>exact hv
   obtain⟨cs,rfl,_,_⟩:=hv;exact⟨.agg avs,by simp only[VRel];exact⟨cs,rfl,h1⟩,by simp only[d3a,hu,hag,cond_true];exact⟨avs,rfl,h2⟩⟩
  |false=>
   have hcell:v.cells = #[v]:=by
    cases v with
    |agg cs=>exfalso;cases dd<;>simp[a2m]at hag<;>simp[Cell.okWide,Cell.ok,hP]at hv
    |_=>rfl
   rw[hcell]at h1;have h3:=h1;obtain⟨a,rfl⟩:∃a,avs=[a]:=by
    have:=VRels.length h1
    match avs,this with
    | [a],_=>exact⟨a,rfl⟩
   simp only[VRels]at h3;obtain⟨c,_,hc,h4,rfl⟩:=h3;simp only[List.cons.injEq,and_true]at hc;subst hc;exact⟨a,h4,by simp only[d3a,hu,hag,cond_false];exact h2⟩
theorem c5c(ok:EnvOk E){n:Nat}:∀(ts:List TypeId) (vs:List Value) (ds:List (DataW H)) (ps:List MemPlace),DataW.TrodAll enc E.P w 0 spare held ts vs ds ps→
 (∀(j:Nat) t v,ts[j]?=some t→vs[j]?=some v→Value.okWide E.P w .any b0 t v)→(ts.all (a4l E n))=true→∃args,VRels (Old w) w noP args vs∧TypAs E n ts args
 | [],vs,ds,ps,h,_,_=>by
  cases vs with
  |nil=>exact⟨[],by simp[VRels],rfl⟩
  |cons v vs=>cases ds<;>simp[DataW.TrodAll]at h
 |t::ts,vs,ds,ps,h,hv,hr=>by
  cases vs with
  |nil=>cases ds<;>simp[DataW.TrodAll]at h
  |cons v vs=>
   cases ds with
   |nil=>simp[DataW.TrodAll]at h
   |cons d ds=>simp only[DataW.TrodAll]at h;obtain⟨p,q,h1,h2,_⟩:=h;simp only[List.all_cons,Bool.and_eq_true]at hr;obtain⟨a,g1,g2⟩:=d6g ok hr.1 (hv 0 t v rfl rfl) h1;obtain⟨r,g3,g4⟩:=c5c ok ts vs ds q h2 (λj t v ht hv'=>hv (j+1) t v (by simpa using ht) (by simpa using hv')) hr.2;exact⟨a::r,by simp only[VRels];exact⟨v,vs,rfl,g1,g3⟩,⟨a,r,rfl,g2,g4⟩⟩
end
end Go.Ax
/- AxLaid: what a listed package-level variable d02 as, as abstract cells. -/
namespace Go.Ax
def c0u(E:Env)(f:TypeId→DataW Unit→Option (List AV)):Nat→List Field→List (DataW Unit)→Option (List AV)
 |_,[],[]=>some []
 |o,x::fs,d::ds=>bif Nat.beq x.offset o&&(E.und x.type).isSome then
  match f x.type d,c0u E f (o+E.sz x.type) fs ds with
  |some a,some b=>bif Nat.beq a.length (E.sz x.type)then some (a++b)else none
  |_,_=>none
  else none
 |_,_,_=>none
def b37(k:Nat)(f:DataW Unit→Option (List AV)):List (DataW Unit)→Option (List (List AV))
 | []=>some []
 |d::ds=>match f d,b37 k f ds with
  |some a,some b=>bif Nat.beq a.length k then some (a::b)else none
  |_,_=>none
def b48(E:Env):Nat→TypeId→DataW Unit→Option (List AV)
 |0,_,_=>none
 |n+1,t,d=>match E.und t,d with
  |some .bool,.lit (.bool b)=>some [.bool b]
  |some (.int k),.lit (.int k' i)=>bif k==k' then some [.int k i]else none
  |some .string,.lit (.string s)=>some [.str s]
  |some (.struct fs),.agg ds=>match c0u E (b48 E n) 0 fs.toList ds with
   |some avs=>bif Nat.beq avs.length (E.sz t)then some avs else none
   |none=>none
  |some (.array m e),.agg ds=>bif (E.und e).isSome&&Nat.beq (m*E.sz e) (E.sz t)&&Nat.beq ds.length m then(b37 (E.sz e) (b48 E n e) ds).map List.flatten else none
  |some (.slice _),.nil=>some [.nilslice]
  |some (.slice e),.slice es spare=>bif (E.und e).isSome&&Nat.blt 0 (E.sz e)&&Nat.blt 0 es.length then(b37 (E.sz e) (b48 E n e) es).map λrows=>[.islice rows (some (es.length+spare.length))]else none
  |_,_=>none
section
variable {E:Env}{w:World}{enc:TypeId×Value→Unit}{base:Nat}{held:Bool}
theorem a6j{α β:Type}{f:α→Option β}{a:α}{l:List α}{r:List β}(h:(a::l).mapM f=some r):∃b r',f a=some b∧l.mapM f=some r'∧r=b::r':=by
 rw[List.mapM_cons]at h;cases hfa:f a with
 |none=>simp[hfa]at h
 |some y=>
  simp only[hfa,Option.bind_eq_bind,Option.bind_some]at h;cases hl:l.mapM f with
  |none=>simp[hl]at h
  |some r'=>simp only[hl,Option.bind_some]at h;cases h;exact⟨y,r',rfl,rfl,rfl⟩
theorem b6f{α β:Type}{f:α→Option β}:∀{l:List α} {r:List β},l.mapM f=some r→r.length=l.length
 | [],r,h=>by cases h;rfl
 |a::l,r,h=>by obtain⟨b,r',_,h2,rfl⟩:=a6j h;simp[b6f h2]
theorem b6g{α β:Type}{f:α→Option β}:∀{l:List α} {r:List β},l.mapM f=some r→∀(i:Nat) a,l[i]?=some a→∃b,f a=some b∧r[i]?=some b
 | [],r,h,i,a,ha=>by simp at ha
 |x::l,r,h,i,a,ha=>by
  obtain⟨b,r',h1,h2,rfl⟩:=a6j h;cases i with
  |zero=>simp only[List.getElem?_cons_zero,Option.some.injEq]at ha;subst ha;exact⟨b,h1,rfl⟩
  |succ i=>simp only[List.getElem?_cons_succ]at ha⊢;exact b6g h2 i a ha
theorem b0o{k:Nat}{f:DataW Unit→Option (List AV)}:∀{ds:List (DataW Unit)} {rows:List (List AV)},b37 k f ds=some rows→rows.length=ds.length
 | [],rows,h=>by cases h;rfl
 |d::ds,rows,h=>by
  simp only[b37]at h;split at h
  case h_2=>cases h
  rename_i a b ha hb;rw[cond_eq_ite]at h;split at h
  ·cases h;simp[b0o hb]
  ·cases h
theorem b0p{k:Nat}{f:DataW Unit→Option (List AV)}:∀{ds:List (DataW Unit)} {rows:List (List AV)},b37 k f ds=some rows→∀(i:Nat) d,ds[i]?=some d→∃a,f d=some a∧a.length=k∧rows[i]?=some a
 | [],rows,h,i,d,hd=>by simp at hd
 |x::ds,rows,h,i,d,hd=>by
  simp only[b37]at h;split at h
  case h_2=>cases h
  rename_i a b ha hb;rw[cond_eq_ite]at h;split at h
  case isFalse=>cases h
  rename_i hk;cases h;cases i with
  |zero=>simp only[List.getElem?_cons_zero,Option.some.injEq]at hd;subst hd;exact⟨a,ha,by simpa using hk,rfl⟩
  |succ i=>simp only[List.getElem?_cons_succ]at hd⊢;exact b0p hb i d hd
theorem b39{I:Nat→Prop}{cs:List Value}{f:TypeId→DataW Unit→Option (List AV)}{g:Field→Option (DataW Unit×List MemPlace)}
 (hg:∀x y avs,g x=some y→f x.type y.1=some avs→VRels I w noP avs ((cs.drop x.offset).take (E.sz x.type))) :
 ∀(fs:List Field) (o:Nat) {xs:List (DataW Unit×List MemPlace)} {avs:List AV},fs.mapM g=some xs→c0u E f o fs (xs.map (·.1))=some avs→VRels I w noP avs ((cs.drop o).take avs.length)
 | [],o,xs,avs,hm,hf=>by cases hm;cases hf;simp[VRels]
 |x::fs,o,xs,avs,hm,hf=>by
  obtain⟨y,ys,h1,h2,rfl⟩:=a6j hm;simp only[List.map_cons,c0u]at hf;rw[cond_eq_ite]at hf;split at hf
  case isFalse=>cases hf
  rename_i hc;simp only[Bool.and_eq_true,Nat.beq_eq]at hc;split at hf
  case h_2=>cases hf
  rename_i a b ha hb;rw[cond_eq_ite]at hf;split at hf
  case isFalse=>cases hf
  rename_i hl;rw[Nat.beq_eq]at hl;cases hf;have ih:=b39 hg fs _ h2 hb;have h3:=hg x y a h1 ha;rw[hc.1,←hl]at h3;rw[List.length_append,List.take_add,List.drop_drop,hl]at *;exact VRels.append h3 ih
theorem b7j{I:Nat→Prop}{cs:List Value}{k:Nat}:∀(rows:List (List AV)) (o:Nat),(∀(i:Nat) r,rows[i]?=some r→r.length=k∧VRels I w noP r ((cs.drop (o+i*k)).take k))→
 VRels I w noP rows.flatten ((cs.drop o).take (rows.length*k))
 | [],o,_=>by simp[VRels]
 |r::rows,o,h=>by have h0:=h 0 r rfl;have ih:=b7j rows (o+k) (λi r hr=>by have:=h (i+1) r (by simpa using hr);rw[show o+k+i*k=o+(i+1)*k by rw[Nat.add_mul];omega];exact this);simp only[List.flatten_cons,List.length_cons];rw[show(rows.length+1)*k=k+rows.length*k by rw[Nat.add_mul];omega,List.take_add,List.drop_drop];refine VRels.append ?_ ih;simpa using h0.2
theorem b80(ok:EnvOk E):∀(n:Nat) (t:TypeId) (fuel:Nat) (cs:List Value) (x:DataW Unit×List MemPlace) (avs:List AV),DataW.trod enc E.P w base (λ_=>true) held fuel t cs=some x→b48 E n t x.1=some avs→
 VRels (Old w) w noP avs cs
 |0,t,fuel,cs,x,avs,_,hf=>by simp[b48]at hf
 |n+1,t,0,cs,x,avs,h,hf=>by simp[DataW.trod]at h
 |n+1,t,fuel+1,cs,x,avs,h,hf=>by
  have ih:=b80 ok n;unfold b48 at hf;unfold DataW.trod at h;cases hu:E.und t with
  |none=>rw[hu]at hf;simp at hf
  |some dd=>
   have hP:=(ok.und t dd hu).1;have hszt:=a3u ok hu;rw[hu]at hf;rw[hP]at h;cases dd
   case bool=>
    obtain⟨b,rfl,rfl⟩:∃b,cs=[.bool b]∧x=(.lit (.bool b),[]):=by split at h<;>simp_all
    simp only[Option.some.injEq]at hf;subst hf;simp[VRels,VRel]
   case int k=>
    obtain⟨b,rfl,rfl⟩:∃b,cs=[.int k b]∧x=(.lit (.int k b),[]):=by split at h<;>simp_all
    simp only[cond_eq_ite]at hf;split at hf
    ·cases hf;simp[VRels,VRel]
    ·cases hf
   case string=>
    obtain⟨b,rfl,rfl⟩:∃b:ByteArray,cs=[.string b]∧x=(.lit (.string b.data.toList),[]):=by split at h<;>simp_all
    simp only[Option.some.injEq]at hf;subst hf;simp[VRels,VRel]
   case struct fs=>
    dsimp only at h;split at h
    case isFalse=>cases h
    rename_i hl;obtain⟨xs,hxs,rfl⟩:=a0f h;dsimp only at hf;split at hf
    case h_2=>cases hf
    rename_i avs' hff;rw[cond_eq_ite]at hf;split at hf
    case isFalse=>cases hf
    rename_i hl2;rw[Nat.beq_eq]at hl2;cases hf;have key:=b39 (E:=E) (I:=Old w) (w:=w) (cs:=cs) (f:=b48 E n)
     (g:=λf=>DataW.trod enc E.P w base (λ_=>true) held fuel f.type ((cs.drop f.offset).take (E.P.cellsOf f.type))) ?_ fs.toList 0 hxs hff
    ·rw[List.drop_zero,List.take_of_length_le (by omega)]at key;exact key
    ·intro x y avs hy hfa;have hund:∃dx,E.und x.type=some dx:=by
      cases n with
      |zero=>simp[b48]at hfa
      |succ n=>unfold b48 at hfa;cases hux:E.und x.type with
       |none=>rw[hux]at hfa;simp at hfa
       |some dx=>exact⟨dx,rfl⟩
     obtain⟨dx,hdx⟩:=hund;rw[a3u ok hdx]at hy;exact ih x.type fuel _ y avs hy hfa
   case array m e=>
    dsimp only at h;split at h
    case isFalse=>cases h
    rename_i hl;obtain⟨xs,hxs,rfl⟩:=a0f h;dsimp only at hf;rw[cond_eq_ite]at hf;split at hf
    case isFalse=>cases hf
    rename_i hc;simp only[Bool.and_eq_true,Nat.beq_eq]at hc;obtain⟨rows,hrows,rfl⟩:=a0f hf;obtain⟨de,hde⟩:=Option.isSome_iff_exists.1 hc.1.1;have hsze:=a3u ok hde;have hlen:rows.length=m:=by rw[b0o hrows];simpa using hc.2
    have key:=b7j (I:=Old w) (w:=w) (cs:=cs) (k:=E.sz e) rows 0 (λi r hr=>by
     have hi:i<m:=by rw[←hlen];exact(List.getElem?_eq_some_iff.1 hr).1
     obtain⟨y,hy,hyi⟩:=b6g hxs i i (by simp[hi]);obtain⟨a,ha,hal,hai⟩:=b0p hrows i y.1 (by simp[hyi]);rw[hr]at hai;cases hai;refine⟨hal,?_⟩;rw[Nat.zero_add];rw[hsze]at hy;exact ih e fuel _ y r hy ha)
    rw[List.drop_zero,List.take_of_length_le (by rw[hlen];omega)]at key;exact key
   case slice e=>
    split at h
    all_goals first|(rename_i heq;cases heq;done)|(cases h;done)|skip
    ·cases h;simp only[Option.some.injEq]at hf;subst hf;simp[VRels,VRel]
    ·rename_i e' a len cap heq;cases heq;dsimp only at h;split at h
     case isFalse=>cases h
     rename_i hc;cases hm:((List.range len).mapM λi=>(w.cells? base (a.add (i*E.P.cellsOf e)) (E.P.cellsOf e)).bind (DataW.trod enc E.P w base (λ_=>true) held fuel e))with
     |none=>rw[hm]at h;simp at h
     |some elems=>
      rw[hm]at h;simp only[Option.bind_some,if_true]at h;obtain⟨rest,hrest,rfl⟩:=a0f h;dsimp only at hf;rw[cond_eq_ite]at hf;split at hf
      case isFalse=>cases hf
      rename_i hc2;simp only[Bool.and_eq_true,Nat.blt_eq,List.length_map]at hc2;obtain⟨rows,hrows,rfl⟩:=a0f hf;obtain⟨de,hde⟩:=Option.isSome_iff_exists.1 hc2.1.1;have hsze:=a3u ok hde;have hlr:rows.length=elems.length:=by rw[b0o hrows];simp
      have hle:elems.length=len:=by rw[b6f hm];simp
      have hlrest:rest.length=cap-len:=by rw[b6f hrest];simp
      have hat:∀i,i<len→∃cs' y,elems[i]?=some y∧cs'.length=E.sz e∧(∀j,j<E.sz e→w.cell? ((a.add (i*E.sz e)).add j)=cs'[j]?)∧DataW.trod enc E.P w base (λ_=>true) held fuel e cs'=some y:=by
       intro i hi;obtain⟨y,hy,hyi⟩:=b6g hm i i (by simp[hi]);rw[hsze]at hy;cases hcs:w.cells? base (a.add (i*E.sz e)) (E.sz e)with
       |none=>rw[hcs]at hy;simp at hy
       |some cs'=>rw[hcs]at hy;obtain⟨_,h2,h3⟩:=World.cells?_some hcs;exact⟨cs',y,hyi,h2,h3,by simpa using hy⟩
      have hspot:a.spot=none∧a.block<w.heap.size:=by
       obtain⟨cs0,y0,_,h1,h2,_⟩:=hat 0 (by omega);have h3:=h2 0 hc2.1.2;rw[Nat.zero_mul,show(a.add 0).add 0=a from by simp[Addr.add],z9e (by omega)]at h3;unfold World.cell? at h3;split at h3
       ·rename_i hb;refine⟨?_,(Array.getElem?_eq_some_iff.1 hb).1⟩;cases hs:a.spot with
        |none=>rfl
        |some _=>rw[hs]at h3;simp at h3
       ·cases h3
      simp only[VRels];refine⟨_,[],rfl,?_,rfl⟩;simp only[VRel];refine⟨a,cap,E.sz e,by rw[hlr,hle],by omega,λn hn=>by cases hn;simp;omega,.inr ⟨hspot.1,hspot.2,?_⟩⟩;have key:∀(rows':List (List AV)) (o:Nat),(∀(i:Nat) r,rows'[i]?=some r→r.length=E.sz e∧VAt (Old w) w noP r a.block (a.off+(o+i)*E.sz e))→VRows (Old w) w (E.sz e) noP rows' a.block (a.off+o*E.sz e):=by
       intro rows'
       induction rows' with
       |nil=>intro o _;simp[VRows]
       |cons r rs ihr=>intro o hh;have h0:=hh 0 r rfl;simp only[VRows];refine⟨h0.1,by simpa using h0.2,?_⟩;rw[show a.off+o*E.sz e+E.sz e=a.off+(o+1)*E.sz e by rw[Nat.add_mul];omega];refine ihr (o+1) (λi r hr=>?_);have:=hh (i+1) r (by simpa using hr);rw[show o+1+i=o+(i+1) by omega];exact this
      have:=key rows 0 (λi r hr=>by
       have hi:i<len:=by rw[←hle,←hlr];exact(List.getElem?_eq_some_iff.1 hr).1
       obtain⟨cs',y,h0,h1,h2,h3⟩:=hat i hi;obtain⟨av,ha,hal,hai⟩:=b0p hrows i y.1 (by simp[h0]);rw[hr]at hai;cases hai;refine⟨hal,?_⟩;rw[Nat.zero_add];refine b3q ?_ (ih e fuel _ y r h3 ha);intro j v hv;have hj:j<E.sz e:=by rw[←h1];exact(List.getElem?_eq_some_iff.1 hv).1
       have:=h2 j hj;rw[hv]at this;rw[←this]
       congr 1
       obtain⟨ab,ao,as⟩:=a;obtain⟨rfl,_⟩:=hspot;unfold Addr.add;split<;>split<;>simp_all)
      simpa using this
   all_goals (simp only at hf;first|(cases hf;done)|(split at hf<;>cases hf))
theorem holds_of_laid(ok:EnvOk E){laid:List (String×DataW Unit)}(h:laidMet E.P laid w)
 (hG:∀g cs,E.G g=some cs→∃x∈laid,E.P.globalNamed x.1=some g∧∃t,(E.P.globals[g]?).map (·.type)=some t∧b48 E 8 t x.2=some cs):Holds E w:=by
 obtain⟨ps,hv,hnd,hcell⟩:=h;have hall:∀(l:List (String×DataW Unit)) ps,DataW.LaidVars E.P w l ps→∀x∈l,∃g t cs fuel p,E.P.globalNamed x.1=some g∧(E.P.globals[g]?).map (·.type)=some t∧w.var? E.P x.1=some cs∧DataW.trod (λ_=>()) E.P w 0 (λ_=>true) false fuel t cs.toList=some (x.2,p):=by
  intro l
  induction l with
  |nil=>intro ps _ x hx;simp at hx
  |cons y r ih=>
   intro ps hv x hx;obtain⟨n,d⟩:=y;simp only[DataW.LaidVars]at hv;obtain⟨g,t,cs,fuel,p,q,h1,h2,h3,h4,h5,_⟩:=hv;simp only[List.mem_cons]at hx;rcases hx with rfl|hx
   ·exact⟨g,t,cs,fuel,p,h1,h2,h3,h4⟩
   ·exact ih q h5 x hx
 intro g cs hg;obtain⟨x,hx,h1,t,h2,h3⟩:=hG g cs hg;obtain⟨g',t',cs',fuel,p,k1,k2,k3,k4⟩:=hall laid ps hv x hx;obtain rfl:g'=g:=z9o (k1.symm.trans h1);obtain rfl:t'=t:=z9o (k2.symm.trans h2);have hr:=b80 ok 8 t' fuel _ (x.2,p) cs k4 h3;unfold World.var? at k3;rw[k1]at k3;simp only[Option.bind_some]at k3;split at k3
 case h_2=>cases k3
 rename_i cs2 e fz hheap;cases k3;refine⟨(Array.getElem?_eq_some_iff.1 hheap).1,?_,λ_=>?_⟩
 ·refine VAt.of_cells (cs:=cs'.toList) (CellsAt.of_heap hheap ?_) hr;intro j v hv;simpa using hv
 ·have hl:=VRels.length hr;rw[a1o hheap,Array.getElem?_eq_none];simp at hl;omega
end
end Go.Ax
/- AxLaw: from a run of a law's body that answers true, for all c9c arguments, to what a row asks. -/
namespace Go.Ax
open Go.ChangeShapes Go.WideShapes Go.RowKit
section
variable {E:Env}{H:Type}{enc:TypeId×Value→H}
theorem a96{P:Program}(hl:laidOutB P=true){W W':World}(hb:Below W.heap.size W W'){sp:Nat→Bool}:∀(ts:List TypeId) (vs:List Value) (ds:List (DataW H)) (ps:List MemPlace),
 (ts.all λt=>P.readableRec t&&decide (t<P.types.size))=true→(∀p∈ps,p.block<W.heap.size)→(∀p∈ps,sp p.block=true)→
 DataW.TrodAll enc P W 0 (λ_=>true) true ts vs ds ps→DataW.TrodAll enc P W' 0 sp true ts vs ds ps
 | [],vs,ds,ps,_,_,_,h=>by cases vs<;>cases ds<;>simp only[DataW.TrodAll]at h⊢<;>exact h
 |t::ts,vs,ds,ps,hr,hlt,hs,h=>by
  cases vs with
  |nil=>simp[DataW.TrodAll]at h
  |cons v vs=>
   cases ds with
   |nil=>simp[DataW.TrodAll]at h
   |cons d ds=>simp only[DataW.TrodAll]at h⊢;obtain⟨p,q,h1,h2,rfl⟩:=h;simp only[List.all_cons,Bool.and_eq_true,decide_eq_true_eq]at hr;refine⟨p,q,?_,a96 hl hb ts vs ds q hr.2 (λx hx=>hlt x (by simp[hx])) (λx hx=>hs x (by simp[hx])) h2,rfl⟩;exact WideElems.Trod_stays hl hr.1.1 hr.1.2 h1 (λx hx=>hb.same (hlt x (by simp[hx]))) (λx hx=>hs x (by simp[hx]))
theorem c6y{P:Program}(hl:laidOutB P=true){f:Func}{s:ChangeSpec}(hvs:s.vars=[]){n:Nat}(hn:f.params.toList.length=n)
 (hs:∀ds:List (DataW H),ds.length=n→(s.fn H ds).results=[.lit (.bool true)]∧(s.fn H ds).args=ds∧(s.fn H ds).vars=[]){tb:TypeId}(hres:f.resultTypes = #[tb])(htb:P.underlying tb=some .bool)
 (hpar:(f.params.toList.all λt=>P.readableRec t&&decide (t<P.types.size))=true)
 {W W':World}{args:Array Value}{ds gs:List (DataW H)}{before:List MemPlace}(hW:DataW.Whole enc P f.params.toList s.vars false W args.toList ds gs before)(hb:Below W.heap.size W W') :
 s.post enc P f false true false false W args (.bool true) W':=by
 have hlt:∀p∈before,p.block<W.heap.size:=λp hp=>hW.lt p hp;have hold:∀p∈before,(λb=>decide (b<W.heap.size)) p.block=true:=λp hp=>by simpa using hlt p hp
 have hW0:=hW;obtain⟨p,q,hA,hV,rfl,hz,hnd⟩:=hW;rw[hvs]at hV;obtain⟨rfl,rfl⟩:=trodVars_none hV;have hlen:ds.length=n:=by
  have:∀(ts:List TypeId) (vs:List Value) (ds:List (DataW H)) (ps:List MemPlace),DataW.TrodAll enc P W 0 (λ_=>true) true ts vs ds ps→ds.length=ts.length:=by
   intro ts
   induction ts with
   |nil=>intro vs ds ps h;cases vs<;>cases ds<;>simp[DataW.TrodAll]at h<;>rfl
   |cons t ts ih=>
    intro vs ds ps h;cases vs with
    |nil=>simp[DataW.TrodAll]at h
    |cons v vs=>cases ds with
     |nil=>simp[DataW.TrodAll]at h
     |cons d ds=>simp only[DataW.TrodAll]at h;obtain⟨p,q,_,h2,_⟩:=h;simp[ih vs ds q h2]
  rw[this _ _ _ _ hA,hn]
 obtain⟨s1,s2,s3⟩:=hs (ds++[]) (by simpa using hlen);rw[List.append_nil]at hlt hold;have hargs:∀sp:Nat→Bool,(∀x∈p,sp x.block=true)→DataW.TrodAll enc P W' 0 sp true f.params.toList args.toList (s.fn H (ds++[])).args p:=by intro sp hsp;rw[s2,List.append_nil];exact a96 hl hb _ _ _ _ hpar hlt hsp hA
 have hvars:∀sp:Nat→Bool,DataW.TrodVars enc P W' sp s.vars (s.fn H (ds++[])).vars []:=by intro sp;rw[s3,hvs];rfl
 have hr1:∀(b:Nat) (sp:Nat→Bool) (hd:Bool),DataW.TrodAll enc P W' b sp hd f.resultTypes.toList ((Value.bool true).resultList f.resultTypes.size) (s.fn H (ds++[])).results []:=by intro b sp hd;rw[s1,hres];exact⟨[],[],⟨1,by simp[DataW.trod,htb,Value.cells]⟩,rfl,rfl⟩
 refine⟨ds,[],p++[],[],p,[],hW0,hr1 _ _ _,hargs _ hold,hvars _,World.keptBut_mono (λx hx=>⟨hx,?_⟩) (hb.frame (·∈p++[])),λ_=>?_⟩
 ·simpa using hx
 ·refine⟨?_,_,_,([]++p)++[],⟨[]++p,[],trodAll_append (hargs _ (λ_ _=>rfl)) (hr1 _ _ _),hvars _,rfl,?_,?_⟩,?_⟩
  ·intro j t r hj hv;rw[hres]at hj hv
   match j,hj,hv with
   |0,hj,hv=>simp[Value.resultList]at hj hv;subst hj;subst hv;exact okWide_bool_mk htb true
  ·intro b off hp;have hin:MemPlace.cell b off∈p:=by simpa using hp
   rw[hb.frozen (hlt _ hin)];exact hz b off (by simpa using hin)
  ·intro ha;cases ha
  ·intro x hx _;simpa using hx
theorem law_contract(ok:EnvOk E)(hl:laidOutB E.P=true){f:FuncId}{fn:Func}{run:List AV→a09→Option (AV×a09)}(hfy:f≠yId)(hf:a4q E f run){m:Nat}
 (hread:(fn.params.toList.all (a4l E m))=true)(hrun:∀args,TypAs E m fn.params.toList args→∃H',run args []=some (.bool true,H'))
 {s:ChangeSpec}(hvs:s.vars=[]){n:Nat}(hn:fn.params.toList.length=n)
 (hs:∀ds:List (DataW H),ds.length=n→(s.fn H ds).results=[.lit (.bool true)]∧(s.fn H ds).args=ds∧(s.fn H ds).vars=[]){tb:TypeId}(hres:fn.resultTypes = #[tb])(htb:E.P.underlying tb=some .bool)
 (hpar:(fn.params.toList.all λt=>E.P.readableRec t&&decide (t<E.P.types.size))=true)
 (W:World)(base:Nat)(args:Array Value)(ds gs:List (DataW H))(before:List MemPlace)
 (hval:∀(j:Nat) t v,fn.params[j]?=some t→args[j]?=some v→Value.okWide E.P W .any base t v)
 (hW:DataW.Whole enc E.P fn.params.toList s.vars false W args.toList ds gs before)(hG:Holds E W) :
 Calls E.P f args W λe W'=>∃v,e = .returned v∧s.post enc E.P fn false true false false W args v W':=by
 have hA:=hW;obtain⟨p,q,hA,_⟩:=hA;obtain⟨avs,h1,h2⟩:=c5c (b0:=base) ok (n:=m) fn.params.toList args.toList ds p hA (λj t v ht hv=>hval j t v (by simpa using ht) (by simpa using hv)) hread;obtain⟨H',hr⟩:=hrun avs h2;have:=c6b hfy hf hr hG h1;rw[Array.toArray_toList]at this;refine this.mono ?_
 rintro e W' ⟨rfl,hb⟩
 exact⟨_,rfl,c6y hl hvs hn hs hres htb hpar hW hb⟩
end
end Go.Ax
/- AxTyp: c9c abstract values, taken apart. -/
namespace Go.Ax
section
variable {E:Env}{n:Nat}{t e:TypeId}{avs:List AV}
theorem b26{α:Type}{f:α→List AV}{P:α→Prop}(hs:slT E t=some e)(he:∀r,Typ E n e r→∃x,P x∧r=f x)(h:Typ E (n+1) t avs) :
 ∃(c:Option (Option Nat)) (l:List α),avs=[sl c (l.map f)]∧l.length≤maxLen∧∀x∈l,P x:=by
 simp only[Typ,a4a.1 hs]at h;rcases h with rfl|⟨rows,cap,rfl,h1,h2,h3⟩
 ·exact⟨none,[],rfl,by simp,by simp⟩
 ·have key:∀rows:List (List AV),(∀r∈rows,r.length=E.sz e∧Typ E n e r)→∃l:List α,rows=l.map f∧∀x∈l,P x:=by
   intro rows
   induction rows with
   |nil=>intro _;exact⟨[],rfl,by simp⟩
   |cons r rs ih=>
    intro hh;obtain⟨x,hx,rfl⟩:=he r (hh r (by simp)).2;obtain⟨l,rfl,hl⟩:=ih (λr hr=>hh r (by simp[hr]));refine⟨x::l,rfl,?_⟩;intro y hy;simp only[List.mem_cons]at hy;rcases hy with rfl|hy
    ·exact hx
    ·exact hl y hy
  obtain⟨l,rfl,hl⟩:=key rows h3;exact⟨some (some cap),l,by rw[b9b],by simpa using Nat.le_trans h1 h2,hl⟩
theorem c9d{k:IntKind}(hk:c8l E t=some k)(h:Typ E (n+1) t avs):∃i,avs=[.int k i]∧(Lit.int k i).wf=true:=by simpa only[Typ,c0k hk]using h
theorem a8j(hk:c8l E t=some .i64)(h:Typ E (n+1) t avs):∃i:Int,avs=[.int .i64 i]∧ -9223372036854775808≤i∧i<9223372036854775808:=by
 obtain⟨i,h1,h2⟩:=c9d hk h;simp only[Lit.wf,Bool.and_eq_true,decide_eq_true_eq]at h2;have e1:IntKind.i64.min = -9223372036854775808:=by rfl
 have e2:IntKind.i64.max=9223372036854775807:=by rfl
 rw[e1,e2]at h2;exact⟨i,h1,h2.1,by omega⟩
theorem b93(hb:d29 E t=true)(h:Typ E (n+1) t avs):∃s,avs=[.str s]∧s.length≤maxLen:=by simpa only[Typ,b5z hb]using h
def b3a(E:Env)(t:TypeId):Option (List TypeId):=match E.und t with|some (.struct fs)=>some (fs.toList.map (·.type))|_=>none
def c5v(E:Env)(n:Nat):List TypeId→List AV→Prop
 | [],avs=>avs=[]
 |t::ts,avs=>∃p r,avs=p++r∧Typ E n t p∧c5v E n ts r
theorem b04{ts:List TypeId}(hf:b3a E t=some ts)(h:Typ E (n+1) t avs):c5v E n ts avs:=by
 unfold b3a at hf;split at hf
 case h_2=>cases hf
 rename_i fs hu;cases hf;simp only[Typ,hu]at h;obtain⟨parts,rfl,h1,h2⟩:=h;have key:∀(fs:List Field) (parts:List (List AV)),parts.length=fs.length→(∀(i:Nat) f p,fs[i]?=some f→parts[i]?=some p→p.length=E.sz f.type∧Typ E n f.type p)→c5v E n (fs.map (·.type)) parts.flatten:=by
  intro fs
  induction fs with
  |nil=>intro parts hl _;have:=List.length_eq_zero_iff.1 hl;subst this;rfl
  |cons f fs ih=>
   intro parts hl hh;cases parts with
   |nil=>simp at hl
   |cons p parts=>exact⟨p,parts.flatten,by simp,(hh 0 f p rfl rfl).2,ih parts (by simpa using hl) (λi f p hf hp=>hh (i+1) f p (by simpa using hf) (by simpa using hp))⟩
 exact key fs.toList parts h1 h2
theorem c69{a:AV}(hg:b8s E t=some true)(h:d3a E n t a):∃avs,a = .agg avs∧Typ E n t avs:=by
 unfold d3a at h;unfold b8s at hg;cases hu:E.und t with
 |none=>rw[hu]at h;exact h.elim
 |some d=>rw[hu]at h hg;simp only[Option.map_some,Option.some.injEq]at hg;simpa[hg]using h
end
end Go.Ax
/- AxHeap: calls on, and loops over, heaps of a few known blocks: what is reached, renamed and put back, ar rewrite rules. -/
namespace Go.Ax
@[go_sem] theorem d2l(H:a09)(n:Nat)(acc:List Nat):a0l H n [] acc=acc.reverse:=by cases n<;>rfl
theorem c1f(H:a09)(n:Nat)(b:Nat)(todo acc:List Nat):a0l H (n+1) (b::todo) acc=bif a1m acc b then a0l H n todo acc else a0l H n (a3a (a05 H b)++todo) (b::acc):=by rfl
@[go_sem] theorem d2m{n:Nat}(hn:(0<n)=True)(H:a09)(b:Nat)(todo acc:List Nat):a0l H n (b::todo) acc=bif a1m acc b then a0l H (n-1) todo acc else a0l H (n-1) (a3a (a05 H b)++todo) (b::acc):=by
 obtain⟨m,rfl⟩:∃m,n=m+1:=⟨n-1,by have:=of_eq_true hn;omega⟩
 exact c1f H m b todo acc
@[go_sem] theorem a06(x:Nat):a1m [] x=false:=by rfl
@[go_sem] theorem a04(a:Nat)(r:List Nat)(x:Nat):a1m (a::r) x=bif decide (a=x)then true else a1m r x:=by simp only[a1m,c2i,b8z]
@[go_sem] theorem a1a:a2c []=true:=by rfl
@[go_sem] theorem a11(a:Nat)(r:List Nat):a2c (a::r)=(!(a1m r a)&&a2c r):=by rfl
@[go_sem] theorem d4g(k:Nat)(rows:List (List AV)):a3a (some (.row k rows))=rows.flatMap a0z:=by rfl
@[go_sem] theorem d9s(b:Nat):List.idxOf? b []=none:=by rfl
@[go_sem] theorem d7s(a:Nat)(l:List Nat)(b:Nat):List.idxOf? b (a::l)=bif decide (a=b)then some 0 else(List.idxOf? b l).map (·+ 1):=by rw[List.idxOf?_cons,b8z];cases decide (a=b)<;>rfl
@[go_sem] theorem d9j(σ:List Nat)(b:Nat):a38 σ b=σ.idxOf? b:=by rfl
@[go_sem] theorem d6c(σ:List Nat)(n j:Nat):a1f σ n j=bif decide (j<σ.length)then σ[j]? else some (n+(j-σ.length)):=by simp only[a1f,c57]
@[go_sem] theorem d2c(H:a09)(π:Nat→Option Nat):a0x H [] π=[]:=by rfl
@[go_sem] theorem c9o(H:a09)(b:Nat)(σ:List Nat)(π:Nat→Option Nat):a0x H (b::σ) π=(a05 H b).map (a0o π)::a0x H σ π:=by rfl
@[go_sem] theorem b7l(σ:List Nat)(n:Nat)(H1:a09)(b:Nat):a0u σ n H1 b []=[]:=by rfl
def d4l(σ:List Nat)(n:Nat)(H1:a09)(o:Option AObj):Option Nat→Option AObj
 |some j=>(a05 H1 j).map (a0o (a1f σ n))
 |none=>o
@[go_sem] theorem b7m(σ:List Nat)(n:Nat)(H1:a09)(b:Nat)(o:Option AObj)(r:a09):a0u σ n H1 b (o::r)=d4l σ n H1 o (σ.idxOf? b)::a0u σ n H1 (b+1) r:=by simp only[a0u];cases σ.idxOf? b<;>rfl
@[go_sem] theorem d2h(π:Nat→Option Nat)(k:Nat)(rows:List (List AV)):a0o π (.row k rows) = .row k (rows.map λr=>r.map (ren π)):=by rfl
/- renaming a value -/
section
variable (π:Nat→Option Nat)
def a4b(f:Nat→AV):Option Nat→AV|some b=>f b|none=>.junk
@[go_sem] theorem d4b(f:Nat→AV)(b:Nat):a4b f (some b)=f b:=by rfl
@[go_sem] theorem d9e(b i o:Nat):ren π (.ptr b i o)=a4b (λb=>.ptr b i o) (π b):=by simp only[ren];cases π b<;>rfl
@[go_sem] theorem d4a(b i o:Nat)(c:Option Nat):ren π (.slice b i o c)=a4b (λb=>.slice b i o c) (π b):=by simp only[ren];cases π b<;>rfl
@[go_sem] theorem d9f(k:IntKind)(n:Int):ren π (.int k n) = .int k n:=by rfl
@[go_sem] theorem d7a(b:Bool):ren π (.bool b) = .bool b:=by rfl
@[go_sem] theorem d9d(s:List UInt8):ren π (.str s) = .str s:=by rfl
@[go_sem] theorem c8b:ren π .nilslice = .nilslice:=by rfl
@[go_sem] theorem d2g:ren π .nilptr = .nilptr:=by rfl
@[go_sem] theorem d49(l:List AV):ren π (.tuple l) = .tuple (l.map (ren π)):=by simp only[ren,a7e]
@[go_sem] theorem d79(f:Fn)(a b:List AV):ren π (.func f a b) = .func f (a.map (ren π)) (b.map (ren π)):=by simp only[ren,a7e]
@[go_sem] theorem a5l:c2f π []=[]:=by rfl
@[go_sem] theorem a4m(s:Nat)(v:AV)(r:Frm):c2f π ((s,v)::r)=(s,ren π v)::c2f π r:=by rfl
end
@[go_sem] theorem a7o(m:Nat)(σ:List Nat)(b:Nat):b89 m σ b=bif decide (b<m)then some b else(σ.idxOf? b).map (m + ·):=by simp only[b89,c57]
theorem a08{m:Nat}{keep:List Nat}{F:Frm}{H:a09}:gcD m keep F H=bif a2c (a7p m (a5s keep F) H)&&(a7p m (a5s keep F) H).all (λb=>decide (m≤b))&&decide (m≤H.length)then
 some (c2f (b89 m (a7p m (a5s keep F) H)) (a5s keep F),gcH m (a7p m (a5s keep F) H) H)else none:=by
 have e:(λb=>Nat.ble m b)=λb=>decide (m≤b):=funext λb=>c58 m b;simp only[gcD,e,c58]
theorem a03(m:Nat)(F:Frm)(H:a09):a7p m F H=(a0l H 1000000 ((H.take m).flatMap a3a++a0z (F.map (·.2))) []).filter λb=>decide (m≤b):=by have e:(λb=>Nat.ble m b)=λb=>decide (m≤b):=funext λb=>c58 m b;simp only[a7p,a3b,e]
@[go_sem] theorem b1c(m:Nat)(σ:List Nat)(H:a09):gcH m σ H=(H.take m).map (Option.map (a0o (b89 m σ)))++a0x H σ (b89 m σ):=by rfl
@[go_sem] theorem e02{α:Type}(p:α→Bool)(a:α)(l:List α):(a::l).filter p=bif p a then a::l.filter p else l.filter p:=by rw[List.filter_cons];cases p a<;>rfl
attribute [go_sem] List.reverse_cons List.reverse_nil List.filter_nil List.flatMap_cons List.flatMap_nil
theorem a0q(run:List AV→a09→Option (AV×a09))(args:List AV)(H:a09){σ:List Nat}(hσ:a0l H 1000000 (a0z args) []=σ)(hn:a2c σ=true)(hl:(σ.all λb=>decide (b<H.length))=true)
 {args':List AV}(ha:args.map (ren (a38 σ))=args'){H0:a09}(hH:a0x H σ (a38 σ)=H0){v:AV}{H1:a09}(hr:run args' H0=some (v,H1)) :
 a2u run args H=some (ren (a1f σ H.length) v,a0u σ H.length H1 0 H++(H1.drop σ.length).map (Option.map (a0o (a1f σ H.length))),σ):=by
 have e:(λb=>Nat.blt b H.length)=λb=>decide (b<H.length):=funext λb=>c57 b H.length;unfold a2u;simp only[a3b,hσ,hn,e,hl,Bool.and_self,cond_true,ha,hH,hr]
theorem a1t{E:Env}{draw:Bool}{call:CallF}{g:FuncId}{fs cs ar args:List AV}{H:a09}(hx:E.ext g=false)(hf:(E.fn g).isSome=true)(he:fs++ar++cs=args){v:AV}{H':a09}{σ:List Nat}
 (h:a2u (call g) args H=some (v,H',σ))(hl:H'.length=H.length):a0n E draw call (.func (.func g) fs cs) ar H=some (v,H',σ):=by
 have hb:Nat.ble H.length H.length=true:=by rw[Nat.ble_eq];exact Nat.le_refl _
 simp only[a0n,hx,hf,he,cond_true,cond_false,h,hl,hb,Bool.not_true,Bool.and_false]
theorem a2t{E:Env}{call:CallF}{g:FuncId}{fs cs ar args:List AV}{H:a09}(hx:E.ext g=false)(hf:(E.fn g).isSome=true)(he:fs++ar++cs=args){v:AV}{H':a09}{σ:List Nat}
 (h:a2u (call g) args H=some (v,H',σ)):a0n E false call (.func (.func g) fs cs) ar H=some (v,H',σ):=by
 simp only[a0n,hx,hf,he,cond_true,cond_false,h,Bool.false_and]
/- freezing -/
@[go_sem] theorem d0c{α β:Type}(a:α)(f:α→β)(d:β):c8f (some a) f d=f a:=by rfl
@[go_sem] theorem d5s{m:Nat}{v:AV}{H:a09}:a5p false m v H=c8f (a4s m true (a8e (a05 H) m 12) v) (λv'=>some (v',(H.take m).map (Option.map (a0o (a1x m))))) (some (v,H)):=by simp only[a5p,cond_false];cases a4s m true (a8e (a05 H) m 12) v<;>rfl
section
variable {m:Nat}{top:Bool}{d:AV→Option AV}{h:FHeap}{n:Nat}
@[go_sem] theorem d9y(k:IntKind)(i:Int):a4s m top d (.int k i)=some (.int k i):=by rfl
@[go_sem] theorem d7v(b:Bool):a4s m top d (.bool b)=some (.bool b):=by rfl
@[go_sem] theorem d9x(s:List UInt8):a4s m top d (.str s)=some (.str s):=by rfl
@[go_sem] theorem c8p:a4s m top d .nilslice=some .nilslice:=by rfl
@[go_sem] theorem e1q(c:Option (Option Nat))(rows:List (List AV)):a4s m top d (sl c rows)=some (sl c rows):=b33 m top d _ (c3i c rows)
@[go_sem] theorem d9z(l:List AV):a4s m top d (.agg l)=a17 (a74 m top d l) λl=>some (.agg l):=by simp only[a4s];cases a74 m top d l<;>rfl
@[go_sem] theorem d5l(l:List AV):a4s m top d (.tuple l)=a17 (a74 m top d l) λl=>some (.tuple l):=by simp only[a4s];cases a74 m top d l<;>rfl
@[go_sem] theorem d7w:a74 m top d []=some []:=by rfl
@[go_sem] theorem d5n(v:AV)(l:List AV):a74 m top d (v::l)=a17 (a4s m top d v) λv=>a17 (a74 m top d l) λl=>some (v::l):=by simp only[a74];cases a4s m top d v<;>cases a74 m top d l<;>rfl
@[go_sem] theorem d5m(b o l:Nat)(c:Option Nat):a4s m top d (.slice b o l c)=bif decide (b<m)then(bif top then some (.slice b o l c)else none)else d (.slice b o l c):=by simp only[a4s,d0y,c57]
@[go_sem] theorem d2u(hn:(0<n)=True)(b o l:Nat)(c:Option Nat):a8e h m n (.slice b o l c)=a17 (b1i (h b)) λkr=>bif decide (o+l≤kr.2.length)then a17 (c2j m (a8e h m (n-1)) ((kr.2.drop o).take l)) λrs=>some (.islice rs c)else none:=by
 obtain⟨n,rfl⟩:∃k,n=k+1:=⟨n-1,by have:=of_eq_true hn;omega⟩
 simp only[a8e,Nat.add_sub_cancel];cases hb:h b with
 |none=>simp only[hb];rfl
 |some ob=>cases ob<;>simp only[hb,b1i,a17,c58];rename_i kk rows;cases c2j m (a8e h m n) ((rows.drop o).take l)<;>rfl
end
/-! ### append -/
section
variable {E:Env}{h:FHeap}{n:Nat}
@[go_sem] theorem d1k(k b o l:Nat)(c:Option Nat):a3c h k (.slice b o l c)=a17 (b1i (h b)) λkr=>bif decide (kr.1=k)&&decide (o+l≤kr.2.length)then some ((kr.2.drop o).take l)else none:=by
 simp only[a3c];cases hb:h b with
 |none=>simp only[hb];rfl
 |some ob=>cases ob<;>simp only[hb,b1i,a17,b8z,c58]
def apT(E:Env)(st xt:TypeId):Option TypeId:=match E.und st,E.und xt with
 |some (.slice e),some dx=>bif a2s dx || !(E.zero e).isSome || !(Nat.blt 0 (E.sz e))then none else some e
 |_,_=>none
def apS(E:Env)(h:FHeap)(n:Nat)(elem:TypeId)(xs:List (List AV)):AV→Option (AV×Eff)
 |.nilslice=>match xs with
  | []=>some (.nilslice,.none)
  |y::ys=>bif a2j E elem (y::ys).length then some (.slice n 0 (y::ys).length none,.new (.row (E.sz elem) (y::ys)))else none
 |.islice rows cap=>bif rows.all (λr=>r.length==E.sz elem)then match xs with
  | []=>some (.islice rows cap,.none)
  |y::ys=>match cap with
   |some c=>bif Nat.blt c (rows.length+(y::ys).length)&&a2j E elem (rows.length+(y::ys).length)then
    some (.slice n 0 (rows.length+(y::ys).length) none,.new (.row (E.sz elem) (rows++(y::ys))))else none
   |none=>none
  else none
 |.slice b off len cap=>match h b with
  |some (.row kk rows)=>bif kk==E.sz elem&&Nat.ble (off+len) rows.length then
   match cap with
   |none=>bif a2j E elem (len+xs.length)&&xs.all (λr=>r.all AV.storable)then
    some (.slice n 0 (len+xs.length) none,.kill b (.row (E.sz elem) (bif Nat.beq (off+len) rows.length then rows.drop off++xs else(rows.drop off).take len++xs)))else none
   |some c=>bif Nat.ble (len+xs.length) c then
    bif Nat.ble (off+len+xs.length) rows.length&&xs.all (λr=>r.all AV.storable)then
     some (.slice b off (len+xs.length) (some c),.set b (.row (E.sz elem) (rows.take (off+len)++xs++rows.drop (off+len+xs.length))))else none
    else bif a2j E elem (len+xs.length)then
     some (.slice n 0 (len+xs.length) none,.new (.row (E.sz elem) ((rows.drop off).take len++xs)))else none
   else none
  |_=>none
 |_=>none
@[go_sem] theorem d6o(st xt:TypeId)(s x:AV):a45 E h n st xt s x=a17 (apT E st xt) λe=>a17 (a3c h (E.sz e) x) λxs=>apS E h n e xs s:=by
 unfold a45 apT;cases E.und st with
 |none=>rfl
 |some d=>cases E.und xt with
  |none=>cases d<;>rfl
  |some dx=>
   cases d<;>try rfl
   rename_i e;simp only;cases(a2s dx || !(E.zero e).isSome || !(Nat.blt 0 (E.sz e)))with
   |true=>rfl
   |false=>
    simp only[cond_false,a17];cases a3c h (E.sz e) x with
    |none=>rfl
    |some xs=>cases s<;>rfl
@[go_sem] theorem e0f(e:TypeId)(y:List AV)(ys:List (List AV)):apS E h n e (y::ys) .nilslice=bif a2j E e (y::ys).length then some (.slice n 0 (y::ys).length none,.new (.row (E.sz e) (y::ys)))else none:=by rfl
@[go_sem] theorem d8a(e:TypeId)(xs:List (List AV))(b o l:Nat):apS E h n e xs (.slice b o l none)=a17 (b1i (h b)) λkr=>
 bif decide (kr.1=E.sz e)then(bif decide (o+l=kr.2.length)then(bif a2j E e (l+xs.length)&&xs.all (λr=>r.all AV.storable)then some (.slice n 0 (l+xs.length) none,.kill b (.row (E.sz e) (kr.2.drop o++xs)))else none)
  else(bif decide (o+l≤kr.2.length)&&a2j E e (l+xs.length)&&xs.all (λr=>r.all AV.storable)then some (.slice n 0 (l+xs.length) none,.kill b (.row (E.sz e) ((kr.2.drop o).take l++xs)))else none))else none:=by
 simp only[apS];cases hb:h b with
 |none=>simp only[hb];rfl
 |some ob=>
  cases ob<;>simp only[hb,b1i,a17,b8z,c58];rename_i kk rows;have e1:Nat.beq (o+l) rows.length=decide (o+l=rows.length):=by rw[c2i,b8z]
  rw[e1];by_cases h1:o+l=rows.length
  ·rw[decide_eq_true h1,decide_eq_true (by omega:o+l≤rows.length)];cases decide (kk=E.sz e)<;>rfl
  ·rw[decide_eq_false h1];cases decide (kk=E.sz e)<;>cases decide (o+l≤rows.length)<;>rfl
@[go_sem] theorem d6i(e:TypeId)(xs:List (List AV))(b o l c:Nat):apS E h n e xs (.slice b o l (some c))=a17 (b1i (h b)) λkr=>
 bif decide (kr.1=E.sz e)&&decide (o+l≤kr.2.length)then(bif decide (l+xs.length≤c)then
  (bif decide (o+l+xs.length≤kr.2.length)&&xs.all (λr=>r.all AV.storable)then some (.slice b o (l+xs.length) (some c),.set b (.row (E.sz e) (kr.2.take (o+l)++xs++kr.2.drop (o+l+xs.length))))else none)
  else(bif a2j E e (l+xs.length)then some (.slice n 0 (l+xs.length) none,.new (.row (E.sz e) ((kr.2.drop o).take l++xs)))else none))else none:=by
 simp only[apS];cases hb:h b with
 |none=>simp only[hb];rfl
 |some ob=>cases ob<;>simp only[hb,b1i,a17,b8z,c58]
theorem b0c{e:TypeId}{k:Nat}(hk:k≤1000000000)(hb:E.bytes e≤1000):a2j E e k=true:=by
 unfold a2j;rw[decide_eq_true (by omega),Bool.true_and,decide_eq_true_eq]
 calc E.bytes e*(2*k+192)≤1000*(2*1000000000+192):=Nat.mul_le_mul hb (by omega)
  _≤281474976710656:=by decide
end
/- The length of a block's rows, by hand. -/
@[go_sem] theorem e0j(a:Nat):(a:Int).tmod 2=((a%2:Nat):Int):=by rfl
theorem c1h(m b:Nat):a1x m b=bif decide (b<m)then some b else none:=by simp only[a1x,c57]
attribute [go_sem] c1h
/-! ### bytes to a string -/
section
variable {E:Env}{h:FHeap}{s d:TypeId}
end
attribute [go_sem] List.length_replicate List.map_replicate List.length_append List.flatMap_append List.map_append
/-! ### calls that only read -/
def FlatO(o:Option AObj):Prop:=∀π,o.map (a0o π)=o
theorem FlatO.row{k:Nat}{rows:List (List AV)}(h:FlatR rows):FlatO (some (.row k rows)):=λπ=>by simp only[Option.map_some,a0o,a02 π h]
theorem c5x(f:Nat→Option AObj)(σ:List Nat)(j:Nat):a05 (σ.map f) j=(σ[j]?).bind f:=by simp only[a05,List.getElem?_map];cases σ[j]?<;>simp
theorem b18{σ:List Nat}{n:Nat}{H:a09}(hf:∀b∈σ,FlatO (a05 H b)):∀(b:Nat) (H2:a09),(∀i,H2[i]?=H[b+i]?)→a0u σ n (σ.map (a05 H)) b H2=H2
 |_,[],_=>rfl
 |b,o::r,hh=>by
  have ih:=b18 hf (n:=n) (b+1) r (λi=>by
   have:=hh (i+1);rw[List.getElem?_cons_succ]at this;rw[this]
   congr 1
   omega)
  simp only[a0u,ih]
  congr 1
  cases hx:σ.idxOf? b with
  |none=>rfl
  |some j=>simp only;have hj:=a30 hx;have hm:b∈σ:=List.mem_of_getElem? hj;rw[c5x,hj];simp only[Option.bind_some];rw[hf b hm _];have h0:=hh 0;simp only[List.getElem?_cons_zero,Nat.add_zero]at h0;simp[a05,←h0]
theorem a69{E:Env}{draw:Bool}{call:CallF}{g:FuncId}{fs cs ar args:List AV}{H:a09}{v:AV}(σ:List Nat)(hx:E.ext g=false)(hf:(E.fn g).isSome=true)(he:fs++ar++cs=args)
 (hσ:a0l H 1000000 (a0z args) []=σ)(hn:a2c σ=true)(hl:(σ.all λb=>decide (b<H.length))=true)(hfl:∀b∈σ,FlatO (a05 H b))
 {args':List AV}(ha:args.map (ren (a38 σ))=args'){H0:a09}(hH:σ.map (a05 H)=H0)(hr:call g args' H0=some (v,H0))(hv:a6b v=[]) :
 a0n E draw call (.func (.func g) fs cs) ar H=some (v,H,σ):=by
 have hs:a0x H σ (a38 σ)=H0:=by rw[←hH];unfold a0x;exact List.map_congr_left λb hb=>hfl b hb _
 have hc:=a0q (call g) args H hσ hn hl ha hs hr;have e1:ren (a1f σ H.length) v=v:=a82 _ v hv;have e2:a0u σ H.length H0 0 H=H:=by rw[←hH];exact b18 hfl 0 H (λi=>by rw[Nat.zero_add])
 have e3:H0.drop σ.length=[]:=by rw[←hH];simp
 rw[e1,e2,e3,List.map_nil,List.append_nil]at hc;exact a1t hx hf he hc rfl
end Go.Ax
/- AxMore: facts that all say 'true'; loops over any states; what a heap's values a0l. -/
namespace Go.Ax
/-! ### what is reached -/
end Go.Ax
/- AxSup: closed runs over facts of calls, a5r a given fact. -/
namespace Go.Ax
def b4e(E:Env)(x:Fact):Prop:=sem E [] x.g x.args []=some (x.v,[])
theorem b61{E:Env}{g:FuncId}{args:List AV}{v:AV}:∀{M:List Fact},(∀x∈M,b4e E x)→d2d M g args=some v→sem E [] g args []=some (v,[])
 | [],_,h=>by simp[d2d]at h
 |x::r,hM,h=>by
  simp only[d2d,cond_eq_ite]at h;split at h
  ·rename_i hc;simp only[Bool.and_eq_true,Nat.beq_eq]at hc;cases h;have:=hM x (by simp);obtain⟨g',a',v'⟩:=x;simp only at hc this;have h1:=hc.1;have h2:=b3b _ _ hc.2;subst h1;subst h2;exact this
  ·exact b61 (λx hx=>hM x (by simp[hx])) h
theorem a61{E:Env}{c:CallF}(hc:CallF.le c (sem E []))(lf:Nat):CallF.le (a62 E c lf) (sem E []):=λg args H r h=>a8l (λ_ h=>by cases h) lf (b0b hc (Nat.le_refl lf) h)
theorem b2o{E:Env}{M:List Fact}(hM:∀x∈M,b4e E x):∀n,CallF.le (c3w E M n) (sem E [])
 |0=>λg args H r h=>by simp[c3w]at h
 |n+1=>λg args H r h=>by
  have h:d9n M (a62 E (c3w E M n) (n+1)) g args H=some r:=h;unfold d9n at h;split at h
  ·split at h
   ·rename_i v hs;cases h;exact b61 hM hs
   ·exact a61 (b2o hM n) _ _ _ _ _ h
  ·exact a61 (b2o hM n) _ _ _ _ _ h
theorem c3c{E:Env}{M:List Fact}(hM:∀x∈M,b4e E x)(n:Nat){g:Nat}{args:List AV}{v:AV}(h:a62 E (c3w E M n) n g args []=some (v,[])):b4e E ⟨g,args,v⟩:=a61 (b2o hM n) n _ _ _ _ h
theorem a7y{E:Env}:∀x∈([]:List Fact),b4e E x:=by simp
theorem c3b{E:Env}{x:Fact}{M:List Fact}(hx:b4e E x)(hM:∀x∈M,b4e E x):∀y∈x::M,b4e E y:=by
 intro y hy;simp only[List.mem_cons]at hy;rcases hy with rfl|hy
 ·exact hx
 ·exact hM y hy
end Go.Ax
/- AxGrow: grown slices; calls that read one block. -/
namespace Go.Ax
def grV(b:Nat):List (List AV)→AV|[]=>.nilslice|_::rs=>.slice b 0 (rs.length+1) none
def grH(k:Nat):List (List AV)→a09|[]=>[]|r::rs=>[some (.row k (r::rs))]
theorem a0a(b:Nat):grV b [] = .nilslice:=by rfl
theorem a0b(k:Nat):grH k []=[]:=by rfl
theorem a1l(b:Nat)(r:List AV)(rs:List (List AV)):grV b (r::rs) = .slice b 0 (rs.length+1) none:=by rfl
theorem a1i(k:Nat)(r:List AV)(rs:List (List AV)):grH k (r::rs)=[some (.row k (r::rs))]:=by rfl
theorem a23(b:Nat)(l:List (List AV))(x:List AV):grV b (l++[x]) = .slice b 0 (l.length+1) none:=by cases l<;>simp[grV]
theorem a24(k:Nat)(l:List (List AV))(x:List AV):grH k (l++[x])=[some (.row k (l++[x]))]:=by cases l<;>simp[grH]
theorem a0e(b:Nat){l:List (List AV)}(h:l≠[]):grV b l = .slice b 0 l.length none:=by cases l with|nil=>exact absurd rfl h|cons a r=>rfl
theorem a0j(k:Nat){l:List (List AV)}(h:l≠[]):grH k l=[some (.row k l)]:=by cases l with|nil=>exact absurd rfl h|cons a r=>rfl
theorem a7f{H:a09}{b:Nat}(hr:a3a (a05 H b)=[]):a0l H 1000000 [b] []=[b]:=by
 have e1:∀n,a0l H (n+2) [b] []=[b]:=by intro n;unfold a0l;simp only[a1m,cond_false,hr,List.append_nil];unfold a0l;rfl
 exact e1 999998
theorem a44{E:Env}{draw:Bool}{call:CallF}{g:FuncId}{fs cs ar args:List AV}{H:a09}{v:AV}{b:Nat}{o:AObj}(hx:E.ext g=false)(hf:(E.fn g).isSome=true)(he:fs++ar++cs=args)
 (hb:a05 H b=some o)(ho:a3a (some o)=[])(hfl:FlatO (some o))(hargs:a0z args=[b]){args':List AV}(ha:args.map (ren (a38 [b]))=args')(hr:call g args' [some o]=some (v,[some o]))(hv:a6b v=[]) :
 a0n E draw call (.func (.func g) fs cs) ar H=some (v,H,[b]):=by
 have hlt:b<H.length:=by
  unfold a05 at hb;cases hh:H[b]? with
  |none=>rw[hh]at hb;cases hb
  |some x=>exact(List.getElem?_eq_some_iff.1 hh).1
 refine a69 [b] hx hf he (by rw[hargs];exact a7f (by rw[hb];exact ho)) rfl (by simpa using hlt) ?_ ha (by simp only[List.map_cons,List.map_nil,hb]) hr hv;intro c hc;simp only[List.mem_singleton]at hc;subst hc;rw[hb];exact hfl
theorem a0p{k:Nat}{rows:List (List AV)}(h:FlatR rows):a3a (some (.row k rows))=[]:=by simp only[a3a];exact a01 h
theorem a0r{H:a09}{b:Nat}{o:AObj}(hb:a05 H b=some o):b<H.length:=by
 unfold a05 at hb;cases hh:H[b]? with
 |none=>rw[hh]at hb;cases hb
 |some x=>exact(List.getElem?_eq_some_iff.1 hh).1
theorem b2h(b n:Nat)(o:Option AObj)(ho:∀π,o.map (a0o π)=o):∀(s:Nat) (H:a09),s≤b→a0u [b] n [o] s H=H.set (b-s) o
 |s,[],_=>by simp[a0u]
 |s,x::H,hs=>by
  simp only[a0u];by_cases hsb:s=b
  ·subst hsb;have e:([s]:List Nat).idxOf? s=some 0:=by simp[List.idxOf?_cons]
   have hrest:∀(t:Nat) (H:a09),s<t→a0u [s] n [o] t H=H:=by
    intro t H
    induction H generalizing t with
    |nil=>intro _;rfl
    |cons y H ih=>
     intro ht;have e2:([s]:List Nat).idxOf? t=none:=by simp[List.idxOf?_cons];omega
     simp only[a0u,e2,ih (t+1) (by omega)]
   simp only[e,hrest (s+1) H (by omega),Nat.sub_self,List.set_cons_zero]
   congr 1
   exact ho _
  ·have e:([b]:List Nat).idxOf? s=none:=by simp[List.idxOf?_cons];omega
   have e2:b-s=(b-(s+1))+1:=by omega
   rw[e2,List.set_cons_succ];simp only[e,b2h b n o ho (s+1) H (by omega)]
theorem a10{E:Env}{draw:Bool}{call:CallF}{g:FuncId}{fs cs ar args:List AV}{H:a09}{v v':AV}{b:Nat}{o o':AObj}(hx:E.ext g=false)(hf:(E.fn g).isSome=true)(he:fs++ar++cs=args)
 (hb:a05 H b=some o)(ho:a3a (some o)=[])(hfl:FlatO (some o))(hargs:a0z args=[b]){args':List AV}(ha:args.map (ren (a38 [b]))=args')(hr:call g args' [some o]=some (v,[some o']))(hfl':FlatO (some o'))(hv:ren (a1f [b] H.length) v=v') :
 a0n E draw call (.func (.func g) fs cs) ar H=some (v',H.set b (some o'),[b]):=by
 have hlt:=a0r hb;have hc:=a0q (call g) args H (σ:=[b]) (by rw[hargs];exact a7f (by rw[hb];exact ho)) rfl (by simpa using hlt) ha (H0:=[some o]) (by simp only[a0x,List.map_cons,List.map_nil,hb];congr 1;exact hfl _) hr;rw[hv,b2h b _ _ hfl' 0 H (Nat.zero_le _)]at hc;simp only[Nat.sub_zero,List.drop_succ_cons,List.drop_zero,List.map_nil,List.append_nil,List.length_cons,List.length_nil]at hc;exact a1t hx hf he hc (by simp)
theorem b4r(b o l:Nat)(c:Option Nat):ren (a38 [b]) (.slice b o l c) = .slice 0 o l c:=by simp[ren,a38]
/-! ### slices of slices -/
def inB(i:Int)(n:Nat):Bool:=decide (0≤i)&&decide (i≤(n:Int))
@[go_sem] theorem c4e(a n:Nat):inB (a:Int) n=decide (a≤n):=by unfold inB;rw[decide_eq_true (by omega),Bool.true_and,Bool.eq_iff_iff,decide_eq_true_eq,decide_eq_true_eq];omega
@[go_sem] theorem e3b(n:Nat):inB 0 n=true:=by simp[inB]
theorem a89{k:IntKind}{i:Int}{n d:Nat}:a1q (some (.int k i)) n d=bif inB i n then some i.toNat else none:=by rfl
attribute [go_sem] Option.map_some Option.map_none
section
variable {E:Env}{h:FHeap}{t:TypeId}
theorem b22{x:AV}{lo hi mx:Option AV}(hs:slT E t=none)(hx:∀s,x≠ .str s)(hy:∀cs,x≠ .iptr cs:=by intro _ h;cases h):a1w E h t x lo hi mx=none:=by
 unfold a1w;unfold slT at hs;cases hu:E.und t with
 |none=>rfl
 |some d=>rw[hu]at hs;cases d<;>first|(cases hs;done)|(cases x<;>first|rfl|exact absurd rfl (hx _)|exact absurd rfl (hy _))
@[go_sem] theorem d1i{k k':IntKind}{i j:Int}:a1w E h t .nilslice none (some (.int k i)) (some (.int k' j))=a17 (slT E t) λe=>bif isT E e&&inB j 0&&inB i j.toNat then some .nilslice else none:=by
 cases hs:slT E t with
 |none=>exact b22 hs (λ_ h=>by cases h)
 |some e=>simp only[a1w,a4a.1 hs,a17,a89,isT];cases(E.und e).isSome<;>cases inB j 0<;>first|rfl|(simp only[cond_true,Bool.true_and];cases inB i j.toNat<;>rfl)
@[go_sem] theorem d32{b o n:Nat}{c:Option Nat}{k k':IntKind}{i j:Int}:a1w E h t (.slice b o n c) none (some (.int k i)) (some (.int k' j))=a17 (slT E t) λe=>a17 (b1i (h b)) λkr=>bif isT E e&&decide (kr.1=E.sz e)&&inB j (a27 n c)&&inB i j.toNat then some (.slice b o i.toNat (some j.toNat))else none:=by
 cases hs:slT E t with
 |none=>exact b22 hs (λ_ h=>by cases h)
 |some e=>
  simp only[a1w,a4a.1 hs,a17,a89,isT];cases hb:h b with
  |none=>cases(E.und e).isSome<;>rfl
  |some ob=>cases ob with
   |map=>cases(E.und e).isSome<;>rfl
   |siter=>cases(E.und e).isSome<;>rfl
   |uset=>cases(E.und e).isSome<;>rfl
   |miter=>cases(E.und e).isSome<;>rfl
   |yloop=>cases(E.und e).isSome<;>rfl
   |trow=>cases(E.und e).isSome<;>rfl
   |row kk rows=>simp only[b1i,b8z];cases(E.und e).isSome<;>cases decide (kk=E.sz e)<;>cases inB j (a27 n c)<;>first|rfl|(simp only[cond_true,Bool.true_and];cases inB i j.toNat<;>rfl)
@[go_sem] theorem d31{b o n:Nat}{c:Option Nat}{k:IntKind}{j:Int}:a1w E h t (.slice b o n c) none (some (.int k j)) none=a17 (slT E t) λe=>a17 (b1i (h b)) λkr=>bif isT E e&&decide (kr.1=E.sz e)&&inB j (a27 n c)then some (.slice b o j.toNat c)else none:=by
 cases hs:slT E t with
 |none=>exact b22 hs (λ_ h=>by cases h)
 |some e=>
  have hc:c.map (λx=>x-0)=c:=by cases c<;>rfl
  simp only[a1w,a4a.1 hs,a17,a89,isT];cases hb:h b with
  |none=>cases(E.und e).isSome<;>rfl
  |some ob=>cases ob with
   |map=>cases(E.und e).isSome<;>rfl
   |siter=>cases(E.und e).isSome<;>rfl
   |uset=>cases(E.und e).isSome<;>rfl
   |miter=>cases(E.und e).isSome<;>rfl
   |yloop=>cases(E.und e).isSome<;>rfl
   |trow=>cases(E.und e).isSome<;>rfl
   |row kk rows=>simp only[b1i,b8z];have e0:∀m,a1q (none:Option AV) m 0=some 0:=λ_=>rfl;cases(E.und e).isSome<;>cases decide (kk=E.sz e)<;>cases inB j (a27 n c)<;>first|rfl|(simp only[cond_true,Bool.true_and,e0,hc];rfl)
end
attribute [go_sem] Nat.le_refl Int.toNat_natCast
@[go_sem] theorem c83{α β:Type}(f:α→β)(l:List α):(l.map f).take l.length=l.map f:=by rw[←List.length_map (f:=f),List.take_length]
attribute [go_sem] List.take_length
@[go_sem] theorem c53(n c:Nat):a27 n (some c)=c:=by rfl
@[go_sem] theorem c54(n:Nat):a27 n none=n:=by rfl
end Go.Ax
/- AxMelt: calls over flat arguments that return a pointer to a block of their own. -/
namespace Go.Ax
@[go_sem] theorem d10{v:AV}{H:a09}:a5p true 0 v H=d7l 0 v H:=by rfl
theorem c1x{m:Nat}(hm:(m=0)=False){v:AV}{H:a09}:a5p true m v H=some (v,H):=by
 cases m with
 |zero=>simp at hm
 |succ n=>rfl
attribute [go_sem] c1x
end Go.Ax
/- AxCpy: copy and clear, ar rewrite rules. -/
namespace Go.Ax
section
variable {E:Env}{draw:Bool}{call:CallF}{F:Frm}{H:a09}{h:FHeap}
@[go_sem] theorem d6z(x:Operand)(t:TypeId):a1d E draw call F H (.call { callee:=.builtin .clear,args:=#[x],argTypes:=#[t] })=a17 (a9z E (a05 H) t (opv E F x)) λz=>bif z.2.fits H.length then some (z.1,a8z H z.2,⟨a12 (opv E F x),z.2.keys H.length⟩)else none:=a4j rfl rfl (by simp[a7w])
def e4p(E:Env)(t:TypeId):Option Nat:=match E.und t with
 |some (.slice e)=>bif (E.und e).isSome then some (E.sz e)else none
 |_=>none
def e2b(E:Env)(t:TypeId):Option (Nat×List AV):=match E.und t with
 |some (.slice e)=>match E.zero e with|some z=>bif z.all AV.storable then some (E.sz e,z)else none|none=>none
 |_=>none
theorem b8u(t:TypeId)(b o l:Nat)(c:Option Nat)(hl:(l=0)=False):a9z E h t (.slice b o l c)=a17 (e2b E t) λkz=>a17 (b1i (h b)) λkr=>
 bif decide (kr.1=kz.1)&&decide (o+l≤kr.2.length)then some (.tuple [],.set b (.row kr.1 (kr.2.take o++List.replicate l kz.2++kr.2.drop (o+l))))else none:=by
 have h0:Nat.beq l 0=false:=by rw[c2i,b8z];exact decide_eq_false (by rw[hl];exact id)
 unfold a9z e2b;cases E.und t with
 |none=>rfl
 |some d=>
  cases d<;>try rfl
  rename_i e;simp only[h0,cond_false];cases E.zero e with
  |none=>rfl
  |some z=>
   simp only[a17];cases hb:h b with
   |none=>cases z.all AV.storable<;>simp[hb,b1i]
   |some ob=>cases ob<;>cases hz:z.all AV.storable<;>simp[hb,b1i,b8z,c58]
attribute [go_sem] b8u
end
section
variable {E:Env}{t:TypeId}{c:Bool}{x y:BitVec 64}
end
section
variable {E:Env}{h:FHeap}{t:TypeId}
@[go_sem] theorem d30{b o n:Nat}{c:Option Nat}{k:IntKind}{i:Int}:a1w E h t (.slice b o n c) (some (.int k i)) none none=a17 (slT E t) λe=>a17 (b1i (h b)) λkr=>bif isT E e&&decide (kr.1=E.sz e)&&inB i n then some (.slice b (o+i.toNat) (n-i.toNat) (c.map (·- i.toNat)))else none:=by
 cases hs:slT E t with
 |none=>exact b22 hs (λ_ h=>by cases h)
 |some e=>
  simp only[a1w,a4a.1 hs,a17,a89,isT];cases hb:h b with
  |none=>cases(E.und e).isSome<;>rfl
  |some ob=>cases ob with
   |map=>cases(E.und e).isSome<;>rfl
   |siter=>cases(E.und e).isSome<;>rfl
   |uset=>cases(E.und e).isSome<;>rfl
   |miter=>cases(E.und e).isSome<;>rfl
   |yloop=>cases(E.und e).isSome<;>rfl
   |trow=>cases(E.und e).isSome<;>rfl
   |row kk rows=>simp only[b1i,b8z];have e0:∀m,a1q (none:Option AV) m n=some n:=λ_=>rfl;cases(E.und e).isSome<;>cases decide (kk=E.sz e)<;>first|rfl|(simp only[cond_true,Bool.true_and,e0];cases inB i n<;>rfl)
end
end Go.Ax
/- AxFz: a loop that freezes at its end, as rewrite rules. -/
namespace Go.Ax
end Go.Ax
/- AxMl: a loop over a set of numbers: as a condition on its end. -/
namespace Go.Ax
section
variable {E:Env}{M:List Fact}{m N:Nat}{g:FuncId}{cur:Nat}{keep:List Nat}{id:Nat}{ops:Array Oper}{it nx:Nat}{ors:List Oper}{rest:Code}
end
end Go.Ax
/- AxSetS: sets of numbers, as rewrite rules. -/
namespace Go.Ax
section
variable {E:Env}{h:FHeap}{t:TypeId}{draw:Bool}{call:CallF}{F:Frm}{H:a09}
@[go_sem] theorem d4w:b4y E t=bif b5v E t then .uset []else .map [] [] [] 0:=by rfl
/-! lookup -/
/-! update -/
/-! delete -/
/-! length -/
/-! ranging -/
/-! frames and heaps -/
variable (π:Nat→Option Nat)
end
end Go.Ax
/- AxSs: strings: equality, sums, slices, as rules. -/
namespace Go.Ax
section
variable {E:Env}{h:FHeap}{t:TypeId}
@[go_sem] theorem d86(a b:List UInt8):d1h .eql a b=some (.bool (decide (a=b))):=by(show some (AV.bool (a==b))=_;congr 2;rw[Bool.eq_iff_iff];simp)
@[go_sem] theorem d85(a b:List UInt8):d1h .neq a b=some (.bool (!(decide (a=b)))):=by(show some (AV.bool (a != b))=_;congr 2;rw[Bool.eq_iff_iff];simp)
@[go_sem] theorem d87(a b:List UInt8):d1h .add a b=bif decide (a.length+b.length≤4611686018427387904)then some (.str (a++b))else none:=by rfl
end
end Go.Ax
/- AxTwo: slices of slices that grow: one block of rows, a block for each that is not empty. -/
namespace Go.Ax
theorem b6l{H L:a09}{c:Nat}(h:(c<H.length)=True):a05 (H++L) c=a05 H c:=by unfold a05;rw[List.getElem?_append_left (of_eq_true h)]
theorem c73{H L:a09}(i:Nat):a05 (H++L) (H.length+i)=a05 L i:=by unfold a05;rw[List.getElem?_append_right (by omega)];congr 1;rw[Nat.add_sub_cancel_left]
section
variable {m:Nat}{F:Frm}{H H1:a09}{R:Nat→Prop}{π:Nat→Option Nat}{b k:Nat}{ids:Nat→Nat}{cp:Nat→Option Nat}{fo:List (List (List AV))}
end
section
variable {H:a09}{b k:Nat}{ids:Nat→Nat}{cp:Nat→Option Nat}{fo:List (List (List AV))}{j:Nat}{x:List AV}{o:Option AObj}
end
def fqE(E:Env)(g:FuncId)(m:Nat)(results:List ResultVar)(P:AV×a09→Prop):b4f:=λe F H=>match e with|.exit _=>False|_=>∃vs r,a1p E F H results=some vs∧a5p (E.thaw g) m (a7i vs) H=some r∧P r
theorem c9s{E:Env}{M:List Fact}{g:FuncId}{args:List AV}{H:a09}{code:Code}{N:Nat}{results:List ResultVar}{P:AV×a09→Prop}
 (hfn:E.fn g=some ⟨code,N,results⟩)(hno:∀y∈M,y.g≠g)(hN:Nat.ble args.length N=true){m:Nat}(hm:H.length=m)(h:Wp (cx E M m N g 0) code (a3k 0 args) H (fqE E g m results P))(hp:E.prim g args=none:=by rfl)(hz:E.zf g=false:=by rfl)(hw:E.raw g=false:=by rfl):∃r,P r∧sem E M g args H=some r:=by
 subst hm;obtain⟨e,F',H',h1,h2⟩:=b79 _ h;cases e with
 |normal=>obtain⟨vs,⟨v,H2⟩,h3,h4,h5⟩:=h2;exact⟨_,h5,c04 hfn hno hN h1 (λ_ h=>by cases h) h3 h4 hp hz hw⟩
 |ret=>obtain⟨vs,⟨v,H2⟩,h3,h4,h5⟩:=h2;exact⟨_,h5,c04 hfn hno hN h1 (λ_ h=>by cases h) h3 h4 hp hz hw⟩
 |exit id=>exact h2.elim
theorem a2w{E:Env}{g:FuncId}{m:Nat}{results:List ResultVar}{P:AV×a09→Prop}{e:AExit}{F:Frm}{H:a09}{r:AV×a09}(h:(bif e.fin then a17 (a1p E F H results) λvs=>a5p (E.thaw g) m (a7i vs) H else none)=some r)(h3:P r):fqE E g m results P e F H:=by
 have h:=fqb h;cases e with
 |exit i=>exact h
 |_=>obtain⟨vs,h1,h2⟩:=h;exact⟨vs,r,h1,h2,h3⟩
theorem svE{E:Env}{M:List Fact}{g:FuncId}{args:List AV}{H:a09}{P:AV×a09→Prop}(f:Func)(h:Wp (cx E M H.length f.ntmps g 0) (f.body.getD .skip) (a3k 0 args) H (fqE E g H.length f.results.toList P))(hfn:E.fn g=some ⟨f.body.getD .skip,f.ntmps,f.results.toList⟩:=by kernel_rfl)
 (hno:(M.all λy=>!Nat.beq y.g g)=true:=by rfl)(hN:Nat.ble args.length f.ntmps=true:=by rfl)(hp:E.prim g args=none:=by rfl)(hz:E.zf g=false:=by rfl)(hw:E.raw g=false:=by rfl):∃r,P r∧sem E M g args H=some r:=c9s hfn (λy hy e=>by
 have:=List.all_eq_true.1 hno y hy;rw[e]at this;simp at this) hN rfl h hp hz hw
end Go.Ax
/- AxCall3: calls over two blocks, which they may write. -/
namespace Go.Ax
theorem a7g{σ:List Nat}{n:Nat}{H1:a09}:∀(s:Nat) (H:a09) (i:Nat),(a0u σ n H1 s H)[i]?=(H[i]?).map λo=>match σ.idxOf? (s+i)with|some j=>(a05 H1 j).map (a0o (a1f σ n))|none=>o
 |s,[],i=>by simp[a0u]
 |s,o::H,0=>by simp[a0u];rfl
 |s,o::H,i+1=>by simp only[a0u,List.getElem?_cons_succ,a7g (s+1) H i];rw[show s+1+i=s+(i+1) by omega]
theorem b7k{H:a09}{a b:Nat}(hab:a≠b)(ha:a3a (a05 H a)=[])(hb:a3a (a05 H b)=[]):a0l H 1000000 [a,b] []=[a,b]:=by
 have e:a0l H (999996+4) [a,b] []=[a,b]:=by
  unfold a0l;simp only[a1m,cond_false,ha,List.nil_append];unfold a0l;have h1:a1m [a] b=false:=by
   cases hc:a1m [a] b with
   |false=>rfl
   |true=>exact absurd (by simpa using a52.1 hc) (Ne.symm hab)
  simp only[h1,cond_false,hb,List.nil_append];unfold a0l;rfl
 exact e
end Go.Ax
/- AxTab: a table of rows of words in blocks, wherever they lie; heads of loops and calls over it. -/
namespace Go.Ax
section
variable {H H1:a09}{R:Nat→Prop}{π:Nat→Option Nat}{a b q:Nat}{ids:Nat→Nat}{w:Nat}{fo:List (List (BitVec 64))}{fr:Int}
end
/-! ### calls, wherever the blocks lie -/
end Go.Ax
/- AxGw: a flat block and a slice of rows that grow together. -/
namespace Go.Ax
section
variable {H H1:a09}{R:Nat→Prop}{π:Nat→Option Nat}{w b k:Nat}{ids:Nat→Nat}{cp:Nat→Option Nat}{ws:List (List AV)}{fo:List (List (List AV))}
end
end Go.Ax
/- AxTwX: a slice of growing slices beside flat blocks: a loop's head. -/
namespace Go.Ax
section
variable {H:a09}{b k:Nat}{ids:Nat→Nat}{cp:Nat→Option Nat}{fo:List (List (List AV))}
end
end Go.Ax
/- AxTab2: a table that a call has been given: heads of loops and calls that write it. -/
namespace Go.Ax
section
variable {H H1:a09}{a b q:Nat}{ids:Nat→Nat}{w:Nat}{fo:List (List (BitVec 64))}{fr:Int}
end
end Go.Ax
/- AxLow: a loop's head over blocks that all stood before the call and refer to nothing. -/
namespace Go.Ax
end Go.Ax
/- AxRf: loops over functions, as conditions on their ends; their rounds. -/
namespace Go.Ax
theorem c7i{E:Env}{draw:Bool}{call:CallF}{g:FuncId}{fs cs as args:List AV}{H:a09}(hx:E.ext g=false)(hf:(E.fn g).isSome=true)(he:fs++as++cs=args){v:AV}{H':a09}{σ:List Nat}
 (h:a2u (call g) args H=some (v,H',σ))(hl:H.length≤H'.length):a0n E draw call (.func (.func g) fs cs) as H=some (v,H',σ):=by
 have hb:Nat.ble H.length H'.length=true:=by rw[Nat.ble_eq];exact hl
 simp only[a0n,hx,hf,he,h,hb,cond_true,cond_false,Bool.not_true,Bool.and_false]
end Go.Ax
/- AxTwY: a slice of slices: a new slice in an empty place; the numbers that a loop's head gives to the first blocks. -/
namespace Go.Ax
section
variable {H H1:a09}{b k:Nat}{ids:Nat→Nat}{cp:Nat→Option Nat}{fo:List (List (List AV))}
end
end Go.Ax
/- AxTwZ: a slice of slices: a new slice behind the others, a slice that is a8g. -/
namespace Go.Ax
section
variable {H H1:a09}{b k:Nat}{ids:Nat→Nat}{cp:Nat→Option Nat}{fo:List (List (List AV))}
end
theorem a6s{E:Env}{d:Bool}{call:CallF}{g:FuncId}{fs cs ar args:List AV}{H L:a09}{v:AV}(hx:E.ext g=false)(hf:(E.fn g).isSome=true)(he:fs++ar++cs=args)(hargs:a0z args=[])(hr:call g args []=some (v,L)) :
 a0n E d call (.func (.func g) fs cs) ar H=some (ren (a1f [] H.length) v,H++L.map (Option.map (a0o (a1f [] H.length))),[]):=by
 have hc:=a0q (call g) args H (σ:=[]) (by rw[hargs];rfl) rfl rfl (args':=args) (a65 _ hargs) (H0:=[]) rfl hr;rw[a8o]at hc;simp only[List.length_nil,List.drop_zero]at hc;exact c7i hx hf he hc (by simp)
section
variable {L:a09}{b k:Nat}{ids:Nat→Nat}{cp:Nat→Option Nat}{fo:List (List (List AV))}
end
section
variable {H2:a09}{b k:Nat}{ids:Nat→Nat}{cp:Nat→Option Nat}{fo:List (List (List AV))}
end
end Go.Ax
/- AxSupH: closed runs over facts of calls that are given memory, or give memory of their own. -/
namespace Go.Ax
structure FactH where
 g:FuncId
 args:List AV
 H0:a09
 v:AV
 H:a09
def b8w(E:Env)(x:FactH):Prop:=sem E [] x.g x.args x.H0=some (x.v,x.H)
def b5g:a09→a09→Bool
 | [],[]=>true
 |some (.row n a)::r,some (.row m b)::s=>Nat.beq n m&&eqR a b&&b5g r s
 |_,_=>false
theorem c4t:∀(a b:a09),b5g a b=true→a=b
 | [],b,h=>by
  cases b with
  |nil=>rfl
  |cons x r=>simp[b5g]at h
 |some (.row n a)::r,some (.row m b)::s,h=>by simp only[b5g,Bool.and_eq_true,Nat.beq_eq]at h;obtain⟨⟨h1,h2⟩,h3⟩:=h;rw[h1,c4r _ _ h2,c4t r s h3]
 |some (.row n a)::r,[],h=>by simp[b5g]at h
 |some (.row n a)::r,none::s,h=>by simp[b5g]at h
 |some (.row n a)::r,some (.map _ _ _ _)::s,h=>by simp[b5g]at h
 |some (.row n a)::r,some (.siter _ _)::s,h=>by simp[b5g]at h
 |some (.row n a)::r,some (.uset _)::s,h=>by simp[b5g]at h
 |some (.row n a)::r,some (.miter _ _ _)::s,h=>by simp[b5g]at h
 |some (.row n a)::r,some (.yloop _ _ _)::s,h=>by simp[b5g]at h
 |some (.row n a)::r,some (.trow _ _ _ _)::s,h=>by simp[b5g]at h
 |none::r,b,h=>by simp[b5g]at h
 |some (.map _ _ _ _)::r,b,h=>by simp[b5g]at h
 |some (.siter _ _)::r,b,h=>by simp[b5g]at h
 |some (.uset _)::r,b,h=>by simp[b5g]at h
 |some (.miter _ _ _)::r,b,h=>by simp[b5g]at h
 |some (.yloop _ _ _)::r,b,h=>by simp[b5g]at h
 |some (.trow _ _ _ _)::r,b,h=>by simp[b5g]at h
def c1b:List FactH→FuncId→List AV→a09→Option (AV×a09)
 | [],_,_,_=>none
 |x::r,g,args,H=>bif Nat.beq x.g g&&(eqL x.args args&&b5g x.H0 H)then some (x.v,x.H)else c1b r g args H
theorem b2c{E:Env}{g:FuncId}{args:List AV}{H:a09}{v:AV×a09}:∀{M:List FactH},(∀x∈M,b8w E x)→c1b M g args H=some v→sem E [] g args H=some v
 | [],_,h=>by simp[c1b]at h
 |x::r,hM,h=>by
  simp only[c1b,cond_eq_ite]at h;split at h
  ·rename_i hc;simp only[Bool.and_eq_true,Nat.beq_eq]at hc;cases h;have:=hM x (by simp);obtain⟨g',a',H0',v',H'⟩:=x;simp only at hc this;have h1:=hc.1;have h2:=b3b _ _ hc.2.1;have h3:=c4t _ _ hc.2.2;subst h1;subst h2;subst h3;exact this
  ·exact b2c (λx hx=>hM x (by simp[hx])) h
def d0g(M:List Fact)(L:List FactH)(call:FuncId→List AV→a09→Option (AV×a09))(g:FuncId)(args:List AV)(H:a09):Option (AV×a09):=
 match H with
 | []=>match d2d M g args with
  |some v=>some (v,[])
  |none=>match c1b L g args []with
   |some r=>some r
   |none=>call g args []
 |b::r=>match c1b L g args (b::r)with
  |some r=>some r
  |none=>call g args (b::r)
def b7t(E:Env)(M:List Fact)(L:List FactH):Nat→FuncId→List AV→a09→Option (AV×a09)
 |0,_,_,_=>none
 |n+1,f,args,H=>d0g M L (a62 E (b7t E M L n) (n+1)) f args H
theorem b0j{E:Env}{M:List Fact}{L:List FactH}(hM:∀x∈M,b4e E x)(hL:∀x∈L,b8w E x):∀n,CallF.le (b7t E M L n) (sem E [])
 |0=>λg args H r h=>by simp[b7t]at h
 |n+1=>λg args H r h=>by
  have h:d0g M L (a62 E (b7t E M L n) (n+1)) g args H=some r:=h;unfold d0g at h;split at h
  ·split at h
   ·rename_i v hs;cases h;exact b61 hM hs
   ·split at h
    ·rename_i v hs;cases h;exact b2c hL hs
    ·exact a61 (b0j hM hL n) _ _ _ _ _ h
  ·split at h
   ·rename_i v hs;cases h;exact b2c hL hs
   ·exact a61 (b0j hM hL n) _ _ _ _ _ h
theorem b9d{E:Env}{M:List Fact}{L:List FactH}(hM:∀x∈M,b4e E x)(hL:∀x∈L,b8w E x)(n:Nat){g:Nat}{args:List AV}{H0:a09}{v:AV}{H:a09}(h:a62 E (b7t E M L n) n g args H0=some (v,H)):b8w E ⟨g,args,H0,v,H⟩:=a61 (b0j hM hL n) n _ _ _ _ h
theorem b2b{E:Env}:∀x∈([]:List FactH),b8w E x:=by simp
end Go.Ax
/- AxLog: the look at a drawn region's log, the order first. -/
namespace Go.Ax
end Go.Ax
namespace Go.Ax
end Go.Ax
/- AxTab3: calls that are given a table (and a list in a block). -/
namespace Go.Ax
end Go.Ax
/- AxTab4: a table that is being b9j; heads of the loops that make and fill it. -/
namespace Go.Ax
section
variable {H H1:a09}{R:Nat→Prop}{π:Nat→Option Nat}{a b:Nat}{ids:Nat→Nat}{w n i:Nat}
end
end Go.Ax
/- AxTab5: a table's number in another cell; a table that is given back. -/
namespace Go.Ax
section
variable {H:a09}{a b q:Nat}{ids:Nat→Nat}{w:Nat}{fo:List (List (BitVec 64))}{fr:Int}
end
end Go.Ax
/- AxMapS: maps by keys that have an encoding; maps of growing slices of numbers. -/
namespace Go.Ax
section
variable {α:Type}[DecidableEq α]{E:Env}{t kt et:TypeId}{enc:α→AV}
end
/-! ### the values that a key has collected -/
end Go.Ax
/- AxMapT: a map of growing slices of numbers, wherever its blocks lie. -/
namespace Go.Ax
section
variable {α:Type}[DecidableEq α]{enc:α→AV}{H H1:a09}{R:Nat→Prop}{π:Nat→Option Nat}{c b:Nat}{ids:Nat→Nat}{es:List (α×List Nat)}
end
section
variable {α:Type}[DecidableEq α]{E:Env}{t kt et:TypeId}{enc:α→AV}
end
section
variable {α:Type}[DecidableEq α]{enc:α→AV}{H:a09}{c b:Nat}{ids:Nat→Nat}{es:List (α×List Nat)}
end
end Go.Ax
/- AxSl3: an immutable slice cut with its capacity. -/
namespace Go.Ax
section
variable {E:Env}{h:FHeap}{t:TypeId}
end
end Go.Ax
