/- AxBin: arithmetic, comparisons, equality, conversions. -/
import Derived.Test.YtlldffjabagdbaaGreatDoorAxA
import Derived.Laws.Strings
import GoSem.Builtin.Append
import GoSem.Builtin.Len
import GoSem.Builtin.Cap
import GoSem.Builtin.Min
import GoSem.Builtin.Max
import GoSem.Builtin.Copy
import GoSem.Builtin.Clear
import GoSem.Instr.MapUpdate
import GoSem.Instr.MapEntry
import GoSem.Builtin.Delete
import GoSem.Instr.Range
import GoSem.Instr.Next
import GoSem.Instr.Entry
import GoSem.Dispatch
set_option linter.unusedSimpArgs false
set_option linter.unusedVariables false
namespace Go.Ax
section
variable {E:Env} {I K:Nat → Prop} {ρ:PMap} {h:FHeap} {n:Nat} {w:World}
def c1f (op:BinOp) (k:IntKind) (a b:Int):Option AV:=
 match op with
 | .add=>some (.int k (k.wrap (a + b)))
 | .sub=>some (.int k (k.wrap (a - b)))
 | .mul=>some (.int k (k.wrap (a * b)))
 | .quo=>bif b == 0 then none else some (.int k (k.wrap (a.tdiv b)))
 | .rem=>bif b == 0 then none else some (.int k (a.tmod b))
 | .and=>some (.int k (k.wrap (BitVec.ofInt k.bits a &&& BitVec.ofInt k.bits b).toNat))
 | .or=>some (.int k (k.wrap (BitVec.ofInt k.bits a ||| BitVec.ofInt k.bits b).toNat))
 | .xor=>some (.int k (k.wrap (BitVec.ofInt k.bits a ^^^ BitVec.ofInt k.bits b).toNat))
 | .andNot=>some (.int k (k.wrap (BitVec.ofInt k.bits a &&& ~~~ BitVec.ofInt k.bits b).toNat))
 | .eql=>some (.bool (a == b))
 | .neq=>some (.bool (a != b))
 | .lss=>some (.bool (decide (a < b)))
 | .leq=>some (.bool (decide (a ≤ b)))
 | .gtr=>some (.bool (decide (b < a)))
 | .geq=>some (.bool (decide (b ≤ a)))
 | _=>none
def e72 (op:BinOp) (a b:List UInt8):Option AV:=
 match op with
 | .add=>bif decide (a.length + b.length ≤ 4611686018427387904) then some (.str (a ++ b)) else none
 | .eql=>some (.bool (a == b))
 | .neq=>some (.bool (!(a == b)))
 | .lss=>some (.bool (Op.bytesLess a b))
 | .leq=>some (.bool (Op.bytesLess a b || a == b))
 | .gtr=>some (.bool (!(Op.bytesLess a b || a == b)))
 | .geq=>some (.bool (!(Op.bytesLess a b)))
 | _=>none
def a8w (E:Env) (eq:TypeId → AV → AV → Option Bool):List Field → List AV → List AV → Option Bool
 | [],_,_=>some true
 | f :: fs,xs,ys=>
  match a2h E f.type ((xs.drop f.offset).take (E.sz f.type)),a2h E f.type ((ys.drop f.offset).take (E.sz f.type)) with
  | some a,some b=>match eq f.type a b,a8w E eq fs xs ys with
   | some p,some q=>some (p && q)
   | _,_=>none
  | _,_=>none
def b0v (E:Env) (eq:TypeId → AV → AV → Option Bool) (elem:TypeId) (xs ys:List AV):Nat → Nat → Option Bool
 | _,0=>some true
 | i,m + 1=>
  match a2h E elem ((xs.drop (i * E.sz elem)).take (E.sz elem)),a2h E elem ((ys.drop (i * E.sz elem)).take (E.sz elem)) with
  | some a,some b=>match eq elem a b,b0v E eq elem xs ys (i + 1) m with
   | some p,some q=>some (p && q)
   | _,_=>none
  | _,_=>none
def a7a:TypeDesc → AV → Option Bool
 | .pointer _,.nilptr=>some true
 | .pointer _,.ptr ..=>some false
 | .pointer _,.iptr ..=>some false
 | .slice _,.nilslice=>some true
 | .slice _,.slice ..=>some false
 | .slice _,.islice ..=>some false
 | .map _ _,.nilmap=>some true
 | .map _ _,.map ..=>some false
 | .map _ _,.imap ..=>some false
 | .map _ _,.iset ..=>some false
 | .func _ _ _,.nilfunc=>some true
 | .func _ _ _,.func ..=>some false
 | _,_=>none
def a2i:TypeDesc → AV → Bool
 | .pointer _,.nilptr=>true
 | .slice _,.nilslice=>true
 | .map _ _,.nilmap=>true
 | .func _ _ _,.nilfunc=>true
 | _,_=>false
def b5l:TypeDesc → Value
 | .pointer _=>.pointer none
 | .slice _=>.slice none 0 0
 | .map _ _=>.map none
 | _=>.nilFunc
def aeq (E:Env):Nat → TypeId → AV → AV → Option Bool
 | 0,_,_,_=>none
 | d + 1,t,x,y=>
  match E.und t,x,y with
  | some .bool,.bool a,.bool b=>some (a == b)
  | some (.int _),.int k a,.int k' b=>bif k == k' then some (a == b) else none
  | some .string,.str a,.str b=>some (a == b)
  | some (.struct fs),.agg xs,.agg ys=>bif E.eqok t then a8w E (aeq E d) fs.toList xs ys else none
  | some (.array len elem),.agg xs,.agg ys=>bif (E.und elem).isSome then b0v E (aeq E d) elem xs ys 0 len else none
  | some d,.nilptr,y=>bif a2i d .nilptr then a7a d y else none
  | some d,x,.nilptr=>bif a2i d .nilptr then a7a d x else none
  | some d,.nilslice,y=>bif a2i d .nilslice then a7a d y else none
  | some d,x,.nilslice=>bif a2i d .nilslice then a7a d x else none
  | some d,.nilmap,y=>bif a2i d .nilmap then a7a d y else none
  | some d,x,.nilmap=>bif a2i d .nilmap then a7a d x else none
  | some d,.nilfunc,y=>bif a2i d .nilfunc then a7a d y else none
  | some d,x,.nilfunc=>bif a2i d .nilfunc then a7a d x else none
  | some (.interface _),.nilifc,.iface _ _=>some false
  | some (.interface _),.iface _ _,.nilifc=>some false
  | some (.interface _),.iface t1 a,.iface t2 b=>bif t1 == t2 then bif E.eqok t1 then aeq E d t1 a b else none else some false
  | _,_,_=>none
theorem b61 (ok:EnvOk E) {eq:TypeId → Value → Value → Sem Bool} {aeq':TypeId → AV → AV → Option Bool}
 (heq:∀ t a b ca cb p,aeq' t a b = some p → VRel I w ρ a ca → VRel I w ρ b cb → (eq t ca cb).run E.P w = .ok p w)
 {xs ys:List AV} {cx cy:Array Value} (hx:VRels I w ρ xs cx.toList) (hy:VRels I w ρ ys cy.toList) :
 ∀ (fs:List Field) (q:Bool),a8w E aeq' fs xs ys = some q → (∀ f ∈ fs,f.name ≠ "_") →
  (forIn fs ((none,()):Option Bool × Unit) (fun f _=>
   if f.name ≠ "_" then do
    let a ← part f.type cx f.offset
    let b ← part f.type cy f.offset
    let c ← eq f.type a b
    if (!c) = true then pure (ForInStep.done (some false,())) else pure (ForInStep.yield (none,()))
   else pure (ForInStep.yield (none,())):Field → Option Bool × Unit → Sem (ForInStep (Option Bool × Unit)))).run E.P w
  = .ok (if q then (none,()) else (some false,())) w
 | [],q,hq,_=>by
  simp only [a8w,Option.some.injEq] at hq;subst hq;simp
 | f :: fs,q,hq,hn=>by
  simp only [a8w] at hq
  split at hq
  case h_2=>cases hq
  rename_i a b ha hb
  split at hq
  case h_2=>cases hq
  rename_i p q' hp hq'
  cases hq
  obtain ⟨ca,h1,h2⟩:=a95 ok ha hx
  obtain ⟨cb,h3,h4⟩:=a95 ok hb hy
  have h5:=heq f.type a b ca cb p hp h2 h4
  have ih:=b61 ok heq hx hy fs q' hq' (fun f hf=>hn f (by simp [hf]))
  have hname:f.name ≠ "_" := hn f (by simp)
  rw [List.forIn_cons]
  simp only [ne_eq,hname,not_false_eq_true,if_true,Sem.run_bind,h1,h3,h5,Result.andThen_ok]
  cases p
  ·simp
  ·simp only [Bool.not_true,Bool.false_eq_true,if_false,Sem.run_pure,Result.andThen_ok,Bool.true_and]
   exact ih
theorem b9i (ok:EnvOk E) {eq:TypeId → Value → Value → Sem Bool} {aeq':TypeId → AV → AV → Option Bool} {elem:TypeId}
 (heq:∀ t a b ca cb p,aeq' t a b = some p → VRel I w ρ a ca → VRel I w ρ b cb → (eq t ca cb).run E.P w = .ok p w)
 {xs ys:List AV} {cx cy:Array Value} (hx:VRels I w ρ xs cx.toList) (hy:VRels I w ρ ys cy.toList) :
 ∀ (m i:Nat) (q:Bool),b0v E aeq' elem xs ys i m = some q →
  (forIn (List.range' i m) ((none,()):Option Bool × Unit) (fun i _=>do
   let a ← part elem cx (i * E.sz elem)
   let b ← part elem cy (i * E.sz elem)
   let c ← eq elem a b
   if (!c) = true then pure (ForInStep.done (some false,())) else pure (ForInStep.yield (none,())):Nat → Option Bool × Unit → Sem (ForInStep (Option Bool × Unit)))).run E.P w
  = .ok (if q then (none,()) else (some false,())) w
 | 0,i,q,hq=>by
  simp only [b0v,Option.some.injEq] at hq;subst hq;simp
 | m + 1,i,q,hq=>by
  simp only [b0v] at hq
  split at hq
  case h_2=>cases hq
  rename_i a b ha hb
  split at hq
  case h_2=>cases hq
  rename_i p q' hp hq'
  cases hq
  obtain ⟨ca,h1,h2⟩:=a95 ok ha hx
  obtain ⟨cb,h3,h4⟩:=a95 ok hb hy
  have h5:=heq elem a b ca cb p hp h2 h4
  have ih:=b9i ok heq hx hy m (i + 1) q' hq'
  rw [List.range'_succ,List.forIn_cons]
  simp only [Sem.run_bind,h1,h3,h5,Result.andThen_ok]
  cases p
  ·simp
  ·simp only [Bool.not_true,Bool.false_eq_true,if_false,Sem.run_pure,Result.andThen_ok,Bool.true_and]
   exact ih
section
variable {t:TypeId} {d:Nat}
theorem b8l {e:TypeId} (ht:(underlying t).run E.P w = .ok (.pointer e) w) (b:Option Addr):(Op.equalIn (d + 1) t (.pointer none) (.pointer b)).run E.P w = .ok b.isNone w:=by
 unfold Op.equalIn;simp only [Sem.run_bind,ht,Result.andThen_ok];rfl
theorem b8k {e:TypeId} (ht:(underlying t).run E.P w = .ok (.pointer e) w) (b:Option Addr):(Op.equalIn (d + 1) t (.pointer b) (.pointer none)).run E.P w = .ok b.isNone w:=by
 unfold Op.equalIn;simp only [Sem.run_bind,ht,Result.andThen_ok];cases b<;>rfl
theorem b1v {e:TypeId} (ht:(underlying t).run E.P w = .ok (.slice e) w) (b:Option Addr) (l c:Nat):(Op.equalIn (d + 1) t (.slice none 0 0) (.slice b l c)).run E.P w = .ok b.isNone w:=by
 unfold Op.equalIn;simp only [Sem.run_bind,ht,Result.andThen_ok];rfl
theorem b1u {e:TypeId} (ht:(underlying t).run E.P w = .ok (.slice e) w) (b:Option Addr) (l c:Nat):(Op.equalIn (d + 1) t (.slice b l c) (.slice none 0 0)).run E.P w = .ok b.isNone w:=by
 unfold Op.equalIn;simp only [Sem.run_bind,ht,Result.andThen_ok];cases b<;>rfl
theorem b34 {k e:TypeId} (ht:(underlying t).run E.P w = .ok (.map k e) w) (b:Option Nat):(Op.equalIn (d + 1) t (.map none) (.map b)).run E.P w = .ok b.isNone w:=by
 unfold Op.equalIn;simp only [Sem.run_bind,ht,Result.andThen_ok];rfl
theorem b33 {k e:TypeId} (ht:(underlying t).run E.P w = .ok (.map k e) w) (b:Option Nat):(Op.equalIn (d + 1) t (.map b) (.map none)).run E.P w = .ok b.isNone w:=by
 unfold Op.equalIn;simp only [Sem.run_bind,ht,Result.andThen_ok];cases b<;>rfl
theorem c0n {ps rs:Array TypeId} {v:Bool} (ht:(underlying t).run E.P w = .ok (.func ps rs v) w):(Op.equalIn (d + 1) t .nilFunc .nilFunc).run E.P w = .ok true w:=by
 unfold Op.equalIn;simp only [Sem.run_bind,ht,Result.andThen_ok];rfl
theorem c9q {ps rs:Array TypeId} {v:Bool} (ht:(underlying t).run E.P w = .ok (.func ps rs v) w) (f:Fn) (a b:Array Value):(Op.equalIn (d + 1) t .nilFunc (.func f a b)).run E.P w = .ok false w:=by
 unfold Op.equalIn;simp only [Sem.run_bind,ht,Result.andThen_ok];rfl
theorem c9p {ps rs:Array TypeId} {v:Bool} (ht:(underlying t).run E.P w = .ok (.func ps rs v) w) (f:Fn) (a b:Array Value):(Op.equalIn (d + 1) t (.func f a b) .nilFunc).run E.P w = .ok false w:=by
 unfold Op.equalIn;simp only [Sem.run_bind,ht,Result.andThen_ok];rfl
theorem d0r {dd:TypeDesc} {y:AV} {q:Bool} {c:Value} (ht:(underlying t).run E.P w = .ok dd w) (hq:a7a dd y = some q) (hy:VRel I w ρ y c) :
 (Op.equalIn (d + 1) t (b5l dd) c).run E.P w = .ok q w ∧ (Op.equalIn (d + 1) t c (b5l dd)).run E.P w = .ok q w:=by
 unfold a7a at hq
 split at hq<;>cases hq<;>simp only [VRel] at hy<;>simp only [b5l]
 ·subst hy;exact ⟨b8l ht _,b8k ht _⟩
 ·obtain ⟨_,_,rfl⟩:=hy;exact ⟨b8l ht _,b8k ht _⟩
 ·obtain ⟨_,_,rfl,_⟩:=hy;exact ⟨b8l ht _,b8k ht _⟩
 ·subst hy;exact ⟨b1v ht _ _ _,b1u ht _ _ _⟩
 ·obtain ⟨_,_,rfl,_⟩:=hy;exact ⟨b1v ht _ _ _,b1u ht _ _ _⟩
 ·obtain ⟨_,_,_,rfl,_⟩:=hy;exact ⟨b1v ht _ _ _,b1u ht _ _ _⟩
 ·subst hy;exact ⟨b34 ht _,b33 ht _⟩
 ·obtain ⟨_,_,rfl⟩:=hy;exact ⟨b34 ht _,b33 ht _⟩
 ·obtain ⟨_,_,rfl,_⟩:=hy;exact ⟨b34 ht _,b33 ht _⟩
 ·obtain ⟨_,_,_,rfl,_⟩:=hy;exact ⟨b34 ht _,b33 ht _⟩
 ·subst hy;exact ⟨c0n ht,c0n ht⟩
 ·obtain ⟨_,_,rfl,_⟩:=hy;exact ⟨c9q ht _ _ _,c9p ht _ _ _⟩
theorem d3c (ht:(underlying t).run E.P w = .ok .bool w) (a b:Bool):(Op.equalIn (d + 1) t (.bool a) (.bool b)).run E.P w = .ok (a == b) w:=by
 unfold Op.equalIn;simp only [Sem.run_bind,ht,Result.andThen_ok];rfl
theorem d85 {k0:IntKind} (ht:(underlying t).run E.P w = .ok (.int k0) w) (k:IntKind) (a b:Int):(Op.equalIn (d + 1) t (.int k a) (.int k b)).run E.P w = .ok (a == b) w:=by
 unfold Op.equalIn;simp only [Sem.run_bind,ht,Result.andThen_ok,if_true];rfl
theorem d84 (ht:(underlying t).run E.P w = .ok .string w) (a b:ByteArray):(Op.equalIn (d + 1) t (.string a) (.string b)).run E.P w = .ok (a == b) w:=by
 unfold Op.equalIn;simp only [Sem.run_bind,ht,Result.andThen_ok];rfl
theorem b6s {ms:Array (String × TypeId)} (ht:(underlying t).run E.P w = .ok (.interface ms) w) (u:TypeId) (x:Value) :
 (Op.equalIn (d + 1) t .nilIface (.iface u x)).run E.P w = .ok false w ∧ (Op.equalIn (d + 1) t (.iface u x) .nilIface).run E.P w = .ok false w:=by
 unfold Op.equalIn;simp only [Sem.run_bind,ht,Result.andThen_ok];exact ⟨rfl,rfl⟩
theorem c5x {ms:Array (String × TypeId)} (ht:(underlying t).run E.P w = .ok (.interface ms) w) (u u':TypeId) (x x':Value) (hne:u ≠ u') :
 (Op.equalIn (d + 1) t (.iface u x) (.iface u' x')).run E.P w = .ok false w:=by
 unfold Op.equalIn;simp only [Sem.run_bind,ht,Result.andThen_ok,ne_eq,hne,not_false_eq_true,if_true];rfl
theorem d86 {ms:Array (String × TypeId)} {i:TypeInfo} (ht:(underlying t).run E.P w = .ok (.interface ms) w) (u:TypeId) (x x':Value) (hi:(typeInfo u).run E.P w = .ok i w) (hc:i.comparable = true) :
 (Op.equalIn (d + 1) t (.iface u x) (.iface u x')).run E.P w = (Op.equalIn d u x x').run E.P w:=by
 conv=>lhs;unfold Op.equalIn
 simp only [Sem.run_bind,ht,Result.andThen_ok,ne_eq,not_true_eq_false,if_false,hi,hc,Bool.not_true,Bool.false_eq_true]
end
theorem b58 (a b:ByteArray):(a == b) = (a.data.toList == b.data.toList):=by
 have e:(a == b) = (a.data == b.data):=rfl
 rw [e,Bool.eq_iff_iff]
 simp only [beq_iff_eq,Array.toList_inj]
theorem c4h (ok:EnvOk E):∀ (d:Nat) {t:TypeId} {x y:AV} {q:Bool} {cx cy:Value},aeq E d t x y = some q → VRel I w ρ x cx → VRel I w ρ y cy →
 ∀ D,d ≤ D → (Op.equalIn D t cx cy).run E.P w = .ok q w
 | 0,t,x,y,q,cx,cy,hq,hx,hy,D,hD=>by simp [aeq] at hq
 | d + 1,t,x,y,q,cx,cy,hq,hx,hy,D,hD=>by
  obtain ⟨D,rfl⟩:∃ D',D = D' + 1:=⟨D - 1,by omega⟩
  unfold aeq at hq
  have nilcase:∀ {dd:TypeDesc} {z nz:AV} {c:Value},E.und t = some dd → (bif a2i dd nz then a7a dd z else none) = some q → VRel I w ρ z c →
   a2i dd nz = true ∧ (Op.equalIn (D + 1) t (b5l dd) c).run E.P w = .ok q w ∧ (Op.equalIn (D + 1) t c (b5l dd)).run E.P w = .ok q w:=by
   intro dd z nz c hu hb hz
   cases hk:a2i dd nz with
   | false=>rw [hk] at hb;cases hb
   | true=>
    rw [hk,cond_true] at hb
    exact ⟨rfl,d0r (a08 ok w hu) hb hz⟩
  have nilv:∀ {dd:TypeDesc},(a2i dd .nilptr = true → b5l dd = .pointer none) ∧ (a2i dd .nilslice = true → b5l dd = .slice none 0 0) ∧
   (a2i dd .nilmap = true → b5l dd = .map none) ∧ (a2i dd .nilfunc = true → b5l dd = .nilFunc):=by
   intro dd;cases dd<;>simp [a2i,b5l]
  split at hq
  ·rename_i hu;simp only [VRel] at hx hy;subst hx hy;cases hq;exact d3c (a08 ok w hu) _ _
  ·rename_i hu;simp only [VRel] at hx hy;subst hx hy
   rw [cond_eq_ite] at hq
   split at hq
   ·rename_i hk;cases hq;have hk:=eq_of_beq hk;subst hk;exact d85 (a08 ok w hu) _ _ _
   ·cases hq
  ·rename_i hu;simp only [VRel] at hx hy
   obtain ⟨a,rfl,ha⟩:=hx
   obtain ⟨b,rfl,hb⟩:=hy
   cases hq
   rw [d84 (a08 ok w hu),b58,ha,hb]
  ·rename_i fs xs ys hu
   simp only [VRel] at hx hy
   obtain ⟨ax,rfl,hx⟩:=hx
   obtain ⟨ay,rfl,hy⟩:=hy
   rw [cond_eq_ite] at hq
   split at hq
   case isFalse=>cases hq
   rename_i he
   obtain ⟨_,hst,_,hnames⟩:=ok.eqok t he
   have hf:=b61 (I:=I) (w:=w) (ρ:=ρ) ok (eq:=Op.equalIn D) (aeq':=aeq E d) (fun t a b ca cb p hp h1 h2=>c4h ok d hp h1 h2 D (by omega)) hx hy fs.toList q hq (fun f hf=>hnames fs hu f hf)
   unfold Op.equalIn
   simp only [Sem.run_bind,a08 ok w hu,Result.andThen_ok,run_program,hst,Bool.false_eq_true,if_false]
   rw [← Array.forIn_toList]
   rw [hf]
   cases q<;>rfl
  ·rename_i len elem xs ys hu
   simp only [VRel] at hx hy
   obtain ⟨ax,rfl,hx⟩:=hx
   obtain ⟨ay,rfl,hy⟩:=hy
   rw [cond_eq_ite] at hq
   split at hq
   case isFalse=>cases hq
   rename_i he
   obtain ⟨de,hde⟩:=Option.isSome_iff_exists.1 he
   have hf:=b9i (I:=I) (w:=w) (ρ:=ρ) ok (eq:=Op.equalIn D) (aeq':=aeq E d) (elem:=elem) (fun t a b ca cb p hp h1 h2=>c4h ok d hp h1 h2 D (by omega)) hx hy len 0 q hq
   unfold Op.equalIn
   simp only [Sem.run_bind,a08 ok w hu,Result.andThen_ok,a31 ok w hde]
   rw [Std.Legacy.Range.forIn_eq_forIn_range']
   have hsz:(Std.Legacy.Range.size [:len]) = len:=by simp [Std.Legacy.Range.size]
   simp only [hsz]
   rw [hf]
   cases q<;>rfl
  ·simp only [VRel] at hx;subst hx;obtain ⟨h1,h2,_⟩:=nilcase (by assumption) hq hy;rw [nilv.1 h1] at h2;exact h2
  ·simp only [VRel] at hy;subst hy;obtain ⟨h1,_,h2⟩:=nilcase (by assumption) hq hx;rw [nilv.1 h1] at h2;exact h2
  ·simp only [VRel] at hx;subst hx;obtain ⟨h1,h2,_⟩:=nilcase (by assumption) hq hy;rw [nilv.2.1 h1] at h2;exact h2
  ·simp only [VRel] at hy;subst hy;obtain ⟨h1,_,h2⟩:=nilcase (by assumption) hq hx;rw [nilv.2.1 h1] at h2;exact h2
  ·simp only [VRel] at hx;subst hx;obtain ⟨h1,h2,_⟩:=nilcase (by assumption) hq hy;rw [nilv.2.2.1 h1] at h2;exact h2
  ·simp only [VRel] at hy;subst hy;obtain ⟨h1,_,h2⟩:=nilcase (by assumption) hq hx;rw [nilv.2.2.1 h1] at h2;exact h2
  ·simp only [VRel] at hx;subst hx;obtain ⟨h1,h2,_⟩:=nilcase (by assumption) hq hy;rw [nilv.2.2.2 h1] at h2;exact h2
  ·simp only [VRel] at hy;subst hy;obtain ⟨h1,_,h2⟩:=nilcase (by assumption) hq hx;rw [nilv.2.2.2 h1] at h2;exact h2
  ·rename_i hu;simp only [VRel] at hx hy;subst hx;obtain ⟨x',rfl,_⟩:=hy;cases hq;exact (b6s (a08 ok w hu) _ _).1
  ·rename_i hu;simp only [VRel] at hx hy;subst hy;obtain ⟨x',rfl,_⟩:=hx;cases hq;exact (b6s (a08 ok w hu) _ _).2
  ·rename_i hu;simp only [VRel] at hx hy
   obtain ⟨x',rfl,hx⟩:=hx
   obtain ⟨y',rfl,hy⟩:=hy
   rw [cond_eq_ite] at hq
   split at hq
   ·rename_i he
    have he:=eq_of_beq he
    subst he
    rw [cond_eq_ite] at hq
    split at hq
    case isFalse=>cases hq
    rename_i hk
    obtain ⟨_,_,⟨i,hi,hc⟩,_⟩:=ok.eqok _ hk
    rw [d86 (i:=i) (a08 ok w hu) _ _ _ (by simp [typeInfo,hi]) hc]
    exact c4h ok d hq hx hy D (by omega)
   ·rename_i hne
    cases hq
    exact c5x (a08 ok w hu) _ _ _ _ (by simpa using hne)
  ·cases hq
end
end Go.Ax
/- AxOp1: the model's binary and unary operations and conversions, against the abstract ones. -/
namespace Go.Ax
section
variable {E:Env} {I K:Nat → Prop} {ρ:PMap} {h:FHeap} {n:Nat} {w:World}
theorem d90 {op:BinOp} {k:IntKind} {a b:Int} {v:AV} (hv:c1f op k a b = some v) (t:TypeId) (hs:op ≠ .shl ∧ op ≠ .shr) :
 ∃ c,(binOp op t (.int k a) (.int k b)).run E.P w = .ok c w ∧ VRel I w ρ v c:=by
 cases op<;>simp only [c1f] at hv
 case shl=>cases hv
 case shr=>cases hv
 case quo=>
  rw [cond_eq_ite] at hv
  split at hv
  ·cases hv
  ·rename_i hb;cases hv
   have hb:b ≠ 0:=by simpa using hb
   exact ⟨_,by simp [binOp,Op.intDiv,hb];rfl,by simp [VRel]⟩
 case rem=>
  rw [cond_eq_ite] at hv
  split at hv
  ·cases hv
  ·rename_i hb;cases hv
   have hb:b ≠ 0:=by simpa using hb
   exact ⟨_,by simp [binOp,Op.intDiv,hb];rfl,by simp [VRel]⟩
 all_goals cases hv
 all_goals exact ⟨_,by simp [binOp,Op.intArith,Op.intBits,Op.intCmp];rfl,by simp [VRel]⟩
theorem d8n {op:BinOp} {a b:ByteArray} {v:AV} (hv:e72 op a.data.toList b.data.toList = some v) (t:TypeId) :
 ∃ c,(binOp op t (.string a) (.string b)).run E.P w = .ok c w ∧ VRel I w ρ v c:=by
 have ta:=ByteArray.toList_eq a
 have tb:=ByteArray.toList_eq b
 cases op<;>simp only [e72] at hv
 case add=>
  rw [cond_eq_ite] at hv
  split at hv
  case isFalse=>cases hv
  rename_i hl;cases hv
  have hl:a.data.toList.length + b.data.toList.length ≤ 4611686018427387904:=by simpa using hl
  have h1:¬ (((a.size + b.size:Nat):Int) > IntKind.i64.max):=by
   simp only [Array.length_toList] at hl
   have:a.size = a.data.size:=rfl
   have:b.size = b.data.size:=rfl
   simp only [IntKind.max,IntKind.signed,IntKind.bits]
   simp;omega
  refine ⟨.string (a ++ b),?_,by simp only [VRel];exact ⟨_,rfl,by simp [ByteArray.data_append]⟩⟩
  simp only [binOp,Op.stringOp,h1,if_false,Sem.run_pure]
 all_goals cases hv
 all_goals
  refine ⟨_,by simp only [binOp,Op.stringOp,ta,tb,Sem.run_pure];rfl,by simp [VRel]⟩
def AV.eqShape:AV → Bool
 | .bool _|.nilptr|.nilslice|.nilmap|.nilfunc|.nilifc|.ptr ..|.iptr ..|.slice ..|.islice ..|.map ..|.imap ..|.iset _|.yfn _|.func ..|.iface ..|.agg ..=>true
 | _=>false
def a7c (E:Env) (op:BinOp) (t:TypeId) (x y:AV) (cst:Bool):Option AV:=
 match op,x,y with
 | .shl,.int k a,.int _ b=>bif decide (b < 0) then none else some (.int k (k.wrap (a * 2 ^ (min b.toNat k.bits))))
 | .shr,.int k a,.int _ b=>bif decide (b < 0) then none else some (.int k (a.fdiv (2 ^ (min b.toNat k.bits))))
 | op,.int k a,.int k' b=>bif k == k' then c1f op k a b else none
 | op,.str a,.str b=>e72 op a b
 | .eql,.nilifc,.nilifc=>match E.und t with|some (.interface _)=>bif cst then some (.bool true) else none|_=>none
 | .neq,.nilifc,.nilifc=>match E.und t with|some (.interface _)=>bif cst then some (.bool false) else none|_=>none
 | .eql,.agg a,.agg b=>bif E.eqok t then (aeq E 6 t (.agg a) (.agg b)).map .bool else none
 | .neq,.agg a,.agg b=>bif E.eqok t then (aeq E 6 t (.agg a) (.agg b)).map (fun q=>.bool (!q)) else none
 | .eql,x,y=>bif x.eqShape then (aeq E 6 t x y).map .bool else none
 | .neq,x,y=>bif x.eqShape then (aeq E 6 t x y).map (fun q=>.bool (!q)) else none
 | _,_,_=>none
def Value.eqShape:Value → Bool
 | .bool _|.pointer _|.slice ..|.map _|.func ..|.nilFunc|.iface ..|.nilIface|.agg _=>true
 | _=>false
theorem VRel.eqShape {x:AV} {c:Value} (hx:VRel I w ρ x c) (hs:x.eqShape = true):Value.eqShape c = true:=by
 cases x<;>simp [AV.eqShape] at hs<;>simp only [VRel] at hx
 all_goals first
  | (subst hx;rfl)
  | (obtain ⟨_,rfl,_⟩:=hx;rfl)
  | (obtain ⟨_,_,rfl⟩:=hx;rfl)
  | (obtain ⟨_,_,rfl,_⟩:=hx;rfl)
  | (obtain ⟨_,_,_,rfl,_⟩:=hx;rfl)
theorem b5a (t:TypeId) (cx cy:Value) (hs:Value.eqShape cx = true):binOp .eql t cx cy = (do pure (.bool (← Op.equal t cx cy))):=by
 cases cx<;>simp [Value.eqShape] at hs<;>first|rfl|(cases cy<;>rfl)
theorem b59 (t:TypeId) (cx cy:Value) (hs:Value.eqShape cx = true):binOp .neq t cx cy = (do pure (.bool (!(← Op.equal t cx cy)))):=by
 cases cx<;>simp [Value.eqShape] at hs<;>first|rfl|(cases cy<;>rfl)
def a8o:Value → Value → Bool
 | .nilIface,.nilIface=>false
 | .agg _,.agg _=>false
 | _,_=>true
theorem a7p (op:BinOp) (t:TypeId) (x y:Operand) (a b:Value) (hf:op ≠ .eql ∧ op ≠ .neq):(eqGuard op t x y a b).run E.P w = .ok () w:=by
 unfold eqGuard
 cases op<;>first|rfl|(exact absurd rfl hf.1)|(exact absurd rfl hf.2)
theorem a3x (op:BinOp) (t:TypeId) (x y:Operand) (a b:Value) (hf:a8o a b = true):(eqGuard op t x y a b).run E.P w = .ok () w:=by
 by_cases hop:op ≠ .eql ∧ op ≠ .neq
 ·exact a7p op t x y a b hop
 ·have:op = .eql ∨ op = .neq:=by cases op<;>simp at hop ⊢
  unfold a8o at hf
  rcases this with rfl|rfl
  all_goals
   unfold eqGuard
   simp only [Bool.not_true,Bool.false_eq_true,if_false]
   split
   ·simp at hf
   ·simp at hf
   ·rfl
theorem b4y (ok:EnvOk E) (op:BinOp) (t:TypeId) (x y:Operand) (a b:Array Value) (hf:E.eqok t = true):(eqGuard op t x y (.agg a) (.agg b)).run E.P w = .ok () w:=by
 by_cases hop:op ≠ .eql ∧ op ≠ .neq
 ·exact a7p op t x y _ _ hop
 ·have:op = .eql ∨ op = .neq:=by cases op<;>simp at hop ⊢
  rcases this with rfl|rfl
  all_goals
   unfold eqGuard
   simp only [Bool.not_true,Bool.false_eq_true,if_false,Sem.run_bind,run_program,Result.andThen_ok,(ok.eqok t hf).1,Bool.not_false,if_true]
   rfl
def a4e:Operand → Bool
 | .const _=>true
 | _=>false
theorem b4x (op:BinOp) (t:TypeId) (x y:Operand) (hc:(a4e x || a4e y) = true):(eqGuard op t x y .nilIface .nilIface).run E.P w = .ok () w:=by
 by_cases hop:op ≠ .eql ∧ op ≠ .neq
 ·exact a7p op t x y _ _ hop
 ·have:op = .eql ∨ op = .neq:=by cases op<;>simp at hop ⊢
  rcases this with rfl|rfl
  all_goals
   unfold eqGuard
   cases x<;>cases y<;>simp [a4e] at hc<;>rfl
theorem b2d (ok:EnvOk E) {t:TypeId} {ms:Array (String × TypeId)} (hu:E.und t = some (.interface ms)):(Op.equal t .nilIface .nilIface).run E.P w = .ok true w:=by
 unfold Op.equal Op.maxDepth Op.equalIn
 simp only [Sem.run_bind,a08 ok w hu,Result.andThen_ok];rfl
theorem b2c {x y:AV} {cx cy:Value} (hx:VRel I w ρ x cx) (hy:VRel I w ρ y cy) (hs:x.eqShape = true) (h1:¬ (x = .nilifc ∧ (y = .nilifc ∨ y = .junk)))
 (h2:∀ a,x = .agg a → (∀ b,y ≠ .agg b) ∧ y ≠ .junk):a8o cx cy = true:=by
 have hcx:=VRel.eqShape hx hs
 cases x<;>simp [AV.eqShape] at hs<;>simp only [VRel] at hx
 case nilifc=>
  subst hx
  cases cy<;>simp [a8o]
  cases y<;>simp only [VRel] at hy<;>first|(simp at hy;done)|(exact h1 ⟨rfl,by simp⟩)|(obtain ⟨_,h,_⟩:=hy;simp at h;done)|(obtain ⟨_,_,h⟩:=hy;simp at h;done)|(obtain ⟨_,_,h,_⟩:=hy;simp at h;done)|(obtain ⟨_,_,_,h,_⟩:=hy;simp at h;done)
 case agg a=>
  obtain ⟨ca,rfl,_⟩:=hx
  obtain ⟨h3,h4⟩:=h2 a rfl
  cases cy<;>simp [a8o]
  cases y<;>simp only [VRel] at hy<;>first|(simp at hy;done)|(exact h4 rfl)|(exact h3 _ rfl)|(obtain ⟨_,h,_⟩:=hy;simp at h;done)|(obtain ⟨_,_,h⟩:=hy;simp at h;done)|(obtain ⟨_,_,h,_⟩:=hy;simp at h;done)|(obtain ⟨_,_,_,h,_⟩:=hy;simp at h;done)
 all_goals first
  | (subst hx;rfl)
  | (obtain ⟨_,rfl,_⟩:=hx;rfl)
  | (obtain ⟨_,_,rfl⟩:=hx;rfl)
  | (obtain ⟨_,_,rfl,_⟩:=hx;rfl)
  | (obtain ⟨_,_,_,rfl,_⟩:=hx;rfl)
theorem a4y {α β:Type} {x:Sem α} {y:Sem β} {a:α} {P:Program} {w w':World} (hx:x.run P w = .ok a w'):(do let _ ← x;y).run P w = y.run P w':=by
 simp [hx]
theorem a5d (ok:EnvOk E) {t:TypeId} {x y:AV} {q:Bool} {cx cy:Value} (hq:aeq E 6 t x y = some q) (hx:VRel I w ρ x cx) (hy:VRel I w ρ y cy) :
 (Op.equal t cx cy).run E.P w = .ok q w:=c4h ok 6 hq hx hy 10000 (by omega)
theorem c4i {d:Nat} {t:TypeId} {x:AV}:aeq E d t x .junk = none:=by
 cases d with
 | zero=>rfl
 | succ d=>
  unfold aeq
  split<;>first|rfl|skip
  all_goals simp_all [a7a]
  all_goals (cases h:a2i _ _<;>simp [a7a])
theorem d9a (ok:EnvOk E) {op:BinOp} {t:TypeId} {x y v:AV} {xo yo:Operand} {cx cy:Value} (hv:a7c E op t x y (a4e xo || a4e yo) = some v)
 (hx:VRel I w ρ x cx) (hy:VRel I w ρ y cy):∃ c,(do eqGuard op t xo yo cx cy;binOp op t cx cy).run E.P w = .ok c w ∧ VRel I w ρ v c:=by
 unfold a7c at hv
 split at hv
 ·simp only [VRel] at hx hy;subst hx hy
  rw [cond_eq_ite] at hv
  split at hv
  ·cases hv
  ·rename_i hb;cases hv
   rw [a4y (a3x _ _ _ _ _ _ rfl)]
   simp only [decide_eq_true_eq] at hb
   exact ⟨_,by simp [binOp,Op.shift,hb];rfl,by simp [VRel]⟩
 ·simp only [VRel] at hx hy;subst hx hy
  rw [cond_eq_ite] at hv
  split at hv
  ·cases hv
  ·rename_i hb;cases hv
   rw [a4y (a3x _ _ _ _ _ _ rfl)]
   simp only [decide_eq_true_eq] at hb
   exact ⟨_,by simp [binOp,Op.shift,hb];rfl,by simp [VRel]⟩
 ·rename_i h1 h2
  simp only [VRel] at hx hy;subst hx hy
  rw [cond_eq_ite] at hv
  split at hv
  case isFalse=>cases hv
  rename_i hk
  have hk:=eq_of_beq hk
  subst hk
  rw [a4y (a3x _ _ _ _ _ _ rfl)]
  exact d90 hv t ⟨by rintro rfl;simp_all,by rintro rfl;simp_all⟩
 ·simp only [VRel] at hx hy
  obtain ⟨a,rfl,ha⟩:=hx
  obtain ⟨b,rfl,hb⟩:=hy
  rw [a4y (a3x _ _ _ _ _ _ rfl)]
  subst ha hb
  exact d8n hv t
 ·simp only [VRel] at hx hy;subst hx hy
  split at hv
  case h_2=>cases hv
  rename_i ms hu
  rw [cond_eq_ite] at hv
  split at hv
  case isFalse=>cases hv
  rename_i hc;cases hv
  rw [a4y (b4x _ _ _ _ hc),b5a _ _ _ rfl]
  exact ⟨.bool true,by simp [b2d ok hu],by simp [VRel]⟩
 ·simp only [VRel] at hx hy;subst hx hy
  split at hv
  case h_2=>cases hv
  rename_i ms hu
  rw [cond_eq_ite] at hv
  split at hv
  case isFalse=>cases hv
  rename_i hc;cases hv
  rw [a4y (b4x _ _ _ _ hc),b59 _ _ _ rfl]
  exact ⟨.bool false,by simp [b2d ok hu],by simp [VRel]⟩
 ·rename_i a b
  rw [cond_eq_ite] at hv
  split at hv
  case isFalse=>cases hv
  rename_i he
  cases hq:aeq E 6 t (.agg a) (.agg b) with
  | none=>simp [hq] at hv
  | some q=>
   simp only [hq,Option.map_some,Option.some.injEq] at hv
   subst hv
   have heq:=a5d ok hq hx hy
   simp only [VRel] at hx hy
   obtain ⟨ca,rfl,_⟩:=hx
   obtain ⟨cb,rfl,_⟩:=hy
   rw [a4y (b4y ok _ _ _ _ _ _ he),b5a _ _ _ rfl]
   exact ⟨.bool q,by simp [heq],by simp [VRel]⟩
 ·rename_i a b
  rw [cond_eq_ite] at hv
  split at hv
  case isFalse=>cases hv
  rename_i he
  cases hq:aeq E 6 t (.agg a) (.agg b) with
  | none=>simp [hq] at hv
  | some q=>
   simp only [hq,Option.map_some,Option.some.injEq] at hv
   subst hv
   have heq:=a5d ok hq hx hy
   simp only [VRel] at hx hy
   obtain ⟨ca,rfl,_⟩:=hx
   obtain ⟨cb,rfl,_⟩:=hy
   rw [a4y (b4y ok _ _ _ _ _ _ he),b59 _ _ _ rfl]
   exact ⟨.bool (!q),by simp [heq],by simp [VRel]⟩
 ·rename_i hn1 hn2 hn3 hn4
  rw [cond_eq_ite] at hv
  split at hv
  case isFalse=>cases hv
  rename_i he
  cases hq:aeq E 6 t x y with
  | none=>simp [hq] at hv
  | some q=>
   simp only [hq,Option.map_some,Option.some.injEq] at hv
   subst hv
   have heq:=a5d ok hq hx hy
   have hjunk:y ≠ .junk:=by rintro rfl;rw [c4i] at hq;cases hq
   have hg:=b2c hx hy he (by
    rintro ⟨rfl,h|h⟩
    ·subst h;simp_all
    ·exact hjunk h) (by
    rintro a rfl
    exact ⟨fun b hb=>by subst hb;simp_all,hjunk⟩)
   rw [a4y (a3x _ _ _ _ _ _ hg),b5a _ _ _ (VRel.eqShape hx he)]
   exact ⟨.bool q,by simp [heq],by simp [VRel]⟩
 ·rename_i hn1 hn2 hn3 hn4
  rw [cond_eq_ite] at hv
  split at hv
  case isFalse=>cases hv
  rename_i he
  cases hq:aeq E 6 t x y with
  | none=>simp [hq] at hv
  | some q=>
   simp only [hq,Option.map_some,Option.some.injEq] at hv
   subst hv
   have heq:=a5d ok hq hx hy
   have hjunk:y ≠ .junk:=by rintro rfl;rw [c4i] at hq;cases hq
   have hg:=b2c hx hy he (by
    rintro ⟨rfl,h|h⟩
    ·subst h;simp_all
    ·exact hjunk h) (by
    rintro a rfl
    exact ⟨fun b hb=>by subst hb;simp_all,hjunk⟩)
   rw [a4y (a3x _ _ _ _ _ _ hg),b59 _ _ _ (VRel.eqShape hx he)]
   exact ⟨.bool (!q),by simp [heq],by simp [VRel]⟩
 ·cases hv
def aun (op:UnOp) (x:AV):Option AV:=
 match op,x with
 | .neg,.int k a=>some (.int k (k.wrap (0 - a)))
 | .not,.bool b=>some (.bool (!b))
 | .xor,.int k a=>some (.int k (k.wrap (BitVec.ofInt k.bits (if k.signed then -1 else k.max) ^^^ BitVec.ofInt k.bits a).toNat))
 | _,_=>none
theorem e2k {op:UnOp} {x v:AV} {c:Value} (hv:aun op x = some v) (hx:VRel I w ρ x c):∃ d,(Op.unary op c).run E.P w = .ok d w ∧ VRel I w ρ v d:=by
 unfold aun at hv
 split at hv
 all_goals first|(cases hv;done)|skip
 all_goals simp only [VRel] at hx;subst hx;cases hv
 ·exact ⟨_,by simp [Op.unary,Op.intArith];rfl,by simp [VRel]⟩
 ·exact ⟨_,by simp [Op.unary];rfl,by simp [VRel]⟩
 ·exact ⟨_,by simp [Op.unary,Op.intBits];rfl,by simp [VRel]⟩
def d4c (E:Env) (src dst:TypeId) (x:AV):Option AV:=
 match E.und src,E.und dst,x with
 | some _,some (.int k),.int _ n=>some (.int k (k.wrap n))
 | some .string,some .string,.str s=>some (.str s)
 | _,_,_=>none
theorem d4b (ok:EnvOk E) {src dst:TypeId} {x v:AV} {c:Value} (hv:d4c E src dst x = some v) (hx:VRel I w ρ x c):∃ d,(convert src dst c).run E.P w = .ok d w ∧ VRel I w ρ v d:=by
 unfold d4c at hv
 split at hv
 ·rename_i hs hd;simp only [VRel] at hx;subst hx;cases hv
  exact ⟨_,by simp [convert,a08 ok w hs,a08 ok w hd,Conv.intToInt];rfl,by simp [VRel]⟩
 ·rename_i hs hd;simp only [VRel] at hx;obtain ⟨t,rfl,ht⟩:=hx;cases hv
  exact ⟨.string t,by simp [convert,a08 ok w hs,a08 ok w hd],by simp only [VRel];exact ⟨t,rfl,ht⟩⟩
 ·cases hv
end
end Go.Ax
/- AxApp: append. -/
namespace Go.Ax
section
variable {E:Env} {I K:Nat → Prop} {ρ:PMap} {h:FHeap} {n:Nat} {w:World}
def a2j (h:FHeap) (k:Nat):AV → Option (List (List AV))
 | .nilslice=>some []
 | .islice rows _=>bif rows.all (fun r=>r.length == k) then some rows else none
 | .slice b off len _=>match h b with
  | some (.row k' rows)=>bif k' == k && Nat.ble (off + len) rows.length then some ((rows.drop off).take len) else none
  | _=>none
 | .str s=>bif k == 1 then some (s.map fun b=>[.int .u8 b.toNat]) else none
 | _=>none
theorem a9k:∀ l:List UInt8,VRels I w ρ (l.map fun b=>[AV.int .u8 b.toNat]).flatten (l.map fun b=>Value.int .u8 b.toNat)
 | []=>by simp [VRels]
 | b :: l=>by
  simp only [List.map_cons,List.flatten_cons,List.cons_append,List.nil_append,VRels]
  exact ⟨_,_,rfl,by simp [VRel],a9k l⟩
theorem SameMem.cell {w w':World} (s:SameMem w w') (a:Addr):w'.cell? a = w.cell? a:=by simp [World.cell?,s.1]
theorem a4v (r:HRel E.G I K ρ h w) {k:Nat} {x:AV} {xs:List (List AV)} {c:Value} (ha:a2j h k x = some xs) (hx:VRel I w ρ x c) :
 (Builtin.lenOf c).run E.P w = .ok xs.length w ∧ (∃ cv:Array Value,(∀ w',SameMem w w' → (Builtin.firstCells k xs.length c).run E.P w' = .ok cv w') ∧ VRels I w ρ xs.flatten cv.toList) ∧ ∀ r ∈ xs,r.length = k:=by
 unfold a2j at ha
 split at ha
 ·cases ha;simp only [VRel] at hx;subst hx
  exact ⟨rfl,⟨#[],fun _ _=>rfl,by simp [VRels]⟩,by simp⟩
 ·rename_i rows cap
  rw [cond_eq_ite] at ha
  split at ha
  case isFalse=>cases ha
  rename_i hall;cases ha
  simp only [List.all_eq_true,beq_iff_eq] at hall
  simp only [VRel] at hx
  obtain ⟨a,cc,kk,rfl,hle,_,hor⟩:=hx
  refine ⟨rfl,?_,hall⟩
  rcases hor with rfl|⟨hs,hI,hrows⟩
  ·exact ⟨#[],fun w' _=>by simp [Builtin.firstCells,loadCells,loadCellsFrom],by simp [VRels]⟩
  ·rw [VRows.iff] at hrows
   obtain ⟨cv,h1,h2⟩:=VAt.cells hrows.2
   have hl:cv.length = xs.length * k:=by rw [← VRels.length h2,a0t hall]
   have ha:a = ⟨a.block,a.off,none⟩:=by cases a;simp_all
   refine ⟨cv.toArray,fun w' hw'=>?_,by simpa using VRels.noRef_any h2⟩
   have:=run_loadCells_list (P:=E.P) w' a cv (fun j v hj=>by rw [ha,a4h,hw'.cell];exact h1 j v hj)
   rw [hl] at this
   simpa [Builtin.firstCells] using this
 ·rename_i b off len cap
  split at ha
  case h_2=>cases ha
  rename_i k' rows hb
  rw [cond_eq_ite] at ha
  split at ha
  case isFalse=>cases ha
  rename_i hc;cases ha
  simp only [Bool.and_eq_true,beq_iff_eq,Nat.ble_eq] at hc
  obtain ⟨rfl,hfit⟩:=hc
  obtain ⟨m,hm,_,_,ho⟩:=r.live b _ hb
  obtain ⟨hk,hk0,_,hrows⟩:=ho
  have hlen:((rows.drop off).take len).length = len:=by simp;omega
  simp only [VRel] at hx
  obtain ⟨a,cc,rfl,hle,_,hor⟩:=hx
  have hsub:=VRows.take len (VRows.drop off (by omega) hrows)
  rw [VRows.iff] at hsub
  refine ⟨by simp [Builtin.lenOf,hlen],?_,hsub.1⟩
  rw [hlen]
  rcases hor with rfl|⟨m',hm',rfl,hroom⟩
  ·have:len = 0:=by omega
   subst this
   exact ⟨#[],fun w' _=>by simp [Builtin.firstCells,loadCells,loadCellsFrom],by simp [VRels]⟩
  ·obtain rfl:m = m':=z9o (hm.symm.trans hm')
   obtain ⟨cv,h1,h2⟩:=VAt.cells hsub.2
   have hl:cv.length = len * k':=by rw [← VRels.length h2,a0t hsub.1,hlen]
   refine ⟨cv.toArray,fun w' hw'=>?_,by simpa using h2⟩
   have:=run_loadCells_list (P:=E.P) w' ⟨m.blk,m.off + off * m.k,none⟩ cv (fun j v hj=>by rw [a4h,hk,hw'.cell];exact h1 j v hj)
   rw [hl] at this
   simpa [Builtin.firstCells] using this
 ·rename_i s
  rw [cond_eq_ite] at ha
  split at ha
  case isFalse=>cases ha
  rename_i hk;cases ha
  have hk:k = 1:=by simpa using hk
  subst hk
  simp only [VRel] at hx
  obtain ⟨t,rfl,ht⟩:=hx
  have hsz:t.size = s.length:=by rw [← ht,Array.length_toList];rfl
  refine ⟨by simp [Builtin.lenOf,hsz],⟨_,fun w' _=>by simp only [Builtin.firstCells,Sem.run_pure];rfl,?_⟩,by simp⟩
  rw [Array.toList_map,a6r]
  simp only [List.drop_zero,List.length_map,ht,List.take_length]
  exact a9k s
 ·cases ha
def a39:TypeDesc → Bool
 | .int _=>true
 | _=>false
def a2s (E:Env) (elem:TypeId) (b0b:Nat):Bool:=decide (b0b ≤ 17592186044416) && decide (E.bytes elem * (2 * b0b + 192) ≤ 281474976710656)
theorem c0f (b0b:Nat):∀ (r c:Nat),c ≤ 2 * b0b + 192 → Builtin.growBy b0b r c ≤ 2 * b0b + 192
 | 0,c,h=>h
 | r + 1,c,h=>by
  simp only [Builtin.growBy]
  split
  ·exact h
  ·rename_i hc
   exact c0f b0b r _ (by omega)
theorem a8h {b0b old:Nat} (h:old < b0b):Builtin.nextslicecap b0b old ≤ 2 * b0b + 192:=by
 unfold Builtin.nextslicecap
 split
 ·omega
 ·split
  ·omega
  ·exact c0f b0b 4 old (by omega)
theorem a4x (z:Array Value) (m:Nat):(Builtin.zeroCells z m).toList = (List.replicate m z.toList).flatten:=by
 rw [← a3e]
 simp only [Builtin.zeroCells,Array.toList_map,Array.toList_range,Array.length_toList]
 apply List.map_congr_left
 intro a _
 rw [Array.getElem!_toList]
theorem b3f (ok:EnvOk E) {st xt elem:TypeId} {dx:TypeDesc} (hu:E.und st = some (.slice elem)) (hxt:E.und xt = some dx) (hnint:a39 dx = false)
 {z:List AV} (hz:E.zero elem = some z) {base:Option Addr} {sLen sCap m:Nat} {cx:Value} {old new:Array Value} (ty:TypeId)
 (hlen:(Builtin.lenOf cx).run E.P w = .ok m w) (hneed:sCap < sLen + m) (hroom:a2s E elem (sLen + m) = true)
 (hold:∀ w',SameMem w w' → (Builtin.firstCells (E.sz elem) sLen (.slice base sLen sCap)).run E.P w' = .ok old w')
 (hnew:∀ w',SameMem w w' → (Builtin.firstCells (E.sz elem) m cx).run E.P w' = .ok new w') :
 ∃ (newCap:Nat) (zs:List Value) (w0:World),SameMem w w0 ∧ sLen + m ≤ newCap ∧ zs.length = E.sz elem ∧
  (Builtin.append_ #[st,xt] ty #[.slice base sLen sCap,cx]).run E.P w =
   .ok (.slice (some ⟨w.heap.size,0,none⟩) (sLen + m) newCap)
    { w0 with heap:=w0.heap.push (.cells (old ++ new ++ (List.replicate (newCap - (sLen + m)) zs).flatten.toArray) elem) }:=by
 obtain ⟨⟨de,hde⟩,i',z',hi',hz',hzl',hzr'⟩:=ok.zero elem z hz
 simp only [a2s,Bool.and_eq_true,decide_eq_true_eq] at hroom
 have hzero:∀ w',(zeroValue elem).run E.P w' = .ok z' w':=by intro w';simp [zeroValue,typeInfo,hi',hz']
 have hzlen:z'.cells.toList.length = E.sz elem:=by rw [← hzl',VRels.length (hzr' (fun _=>False) w)]
 obtain ⟨i,hi,_,hib⟩:=b2q ok w hde
 have hinfo:∀ w',(typeInfo elem).run E.P w' = .ok i w':=by
  intro w'
  have:=hi
  simp [typeInfo,hi'] at this ⊢
  exact this
 have hzm:∀ w',(underlying xt).run E.P w' = .ok dx w':=fun w'=>a08 ok w' hxt
 refine ⟨sLen + m + (w.tape w.drawn (.appendCap (sLen + m) sCap elem)) % (2 ^ 63 - (sLen + m)),z'.cells.toList,{ w with drawn:=w.drawn + 1 },⟨rfl,rfl,rfl,rfl⟩,by omega,hzlen,?_⟩
 have hle:¬ (sLen + m ≤ sCap):=by omega
 have hcap:=a8h hneed
 have h48:¬ (Builtin.nextslicecap (sLen + m) sCap * i.bytes > 2 ^ 48):=by
  rw [hib]
  have:Builtin.nextslicecap (sLen + m) sCap * E.bytes elem ≤ (2 * (sLen + m) + 192) * E.bytes elem:=Nat.mul_le_mul_right _ hcap
  rw [Nat.mul_comm (2 * (sLen + m) + 192)] at this
  omega
 have hmax:¬ (((sLen + m:Nat):Int) > IntKind.i64.max):=by
  simp only [IntKind.max,IntKind.signed,IntKind.bits];simp;omega
 have hmax':¬ ((((sLen + m:Nat):Int) > IntKind.i64.max) ∧ (False ∨ i.bytes = 0)):=fun hh=>hmax hh.1
 have hold':=hold { w with drawn:=w.drawn + 1 } ⟨rfl,rfl,rfl,rfl⟩
 have hnew':=hnew { w with drawn:=w.drawn + 1 } ⟨rfl,rfl,rfl,rfl⟩
 have hnot:∀ k:IntKind,dx ≠ .int k:=by rintro k rfl;simp [a39] at hnint
 unfold Builtin.append_
 simp only [List.getElem?_toArray,List.getElem?_cons_zero,List.getElem?_cons_succ,Sem.run_bind,a08 ok w hu,Result.andThen_ok,a31 ok w hde]
 simp only [hzm w,Result.andThen_ok,Sem.run_pure]
 simp only [Bool.false_eq_true,if_false,Sem.run_bind,hlen,Result.andThen_ok,hle,hinfo,false_or,hmax,false_and,h48,Bool.not_false,if_true,run_choose,run_askRoom,
  Question.forced,Question.cut,hold',hnew',hzero,a3w,Sem.run_pure]
 congr 4
 apply Array.ext'
 simp only [Array.toList_append,a4x]
theorem a34 (ok:EnvOk E) {st xt elem:TypeId} {dx de:TypeDesc} (hu:E.und st = some (.slice elem)) (hde:E.und elem = some de) (hxt:E.und xt = some dx) (hnint:a39 dx = false)
 {base:Option Addr} {sLen sCap m:Nat} {cx:Value} {new:Array Value} (ty:TypeId) {w':World}
 (hlen:(Builtin.lenOf cx).run E.P w = .ok m w) (hle:sLen + m ≤ sCap)
 (hnew:(Builtin.firstCells (E.sz elem) m cx).run E.P w = .ok new w)
 (hst:∀ a,base = some a → (storeCells (a.add (sLen * E.sz elem)) new.toList).run E.P w = .ok () w') (hnone:base = none → w' = w) :
 (Builtin.append_ #[st,xt] ty #[.slice base sLen sCap,cx]).run E.P w = .ok (.slice base (sLen + m) sCap) w':=by
 have hnot:∀ k:IntKind,dx ≠ .int k:=by rintro k rfl;simp [a39] at hnint
 unfold Builtin.append_
 simp only [List.getElem?_toArray,List.getElem?_cons_zero,List.getElem?_cons_succ,Sem.run_bind,a08 ok w hu,Result.andThen_ok,a31 ok w hde,a08 ok w hxt,Sem.run_pure]
 simp only [Bool.false_eq_true,if_false,Sem.run_bind,hlen,Result.andThen_ok,hle,Bool.not_false,if_true,hnew]
 cases base with
 | none=>simp [hnone rfl]
 | some a=>simp [hst a rfl]
def a4i (E:Env) (h:FHeap) (n:Nat) (st xt:TypeId) (s x:AV):Option (AV × Eff):=
 match E.und st,E.und xt with
 | some (.slice elem),some dx=>
  bif a39 dx || !(E.zero elem).isSome || !(Nat.blt 0 (E.sz elem)) then none else
  match a2j h (E.sz elem) x with
  | none=>none
  | some xs=>match s with
   | .nilslice=>match xs with
    | []=>some (.nilslice,.none)
    | y :: ys=>bif a2s E elem (y :: ys).length then some (.slice n 0 (y :: ys).length none,.new (.row (E.sz elem) (y :: ys))) else none
   | .islice rows cap=>bif rows.all (fun r=>r.length == E.sz elem) then match xs with
    | []=>some (.islice rows cap,.none)
    | y :: ys=>match cap with
     | some c=>bif Nat.blt c (rows.length + (y :: ys).length) && a2s E elem (rows.length + (y :: ys).length) then
      some (.slice n 0 (rows.length + (y :: ys).length) none,.new (.row (E.sz elem) (rows ++ (y :: ys)))) else none
     | none=>none
    else none
   | .slice b off len cap=>match h b with
    | some (.row kk rows)=>bif kk == E.sz elem && Nat.ble (off + len) rows.length then
     match cap with
     | none=>bif a2s E elem (len + xs.length) && xs.all (fun r=>r.all AV.storable) then
      some (.slice n 0 (len + xs.length) none,.kill b (.row (E.sz elem) (bif Nat.beq (off + len) rows.length then rows.drop off ++ xs else (rows.drop off).take len ++ xs))) else none
     | some c=>bif Nat.ble (len + xs.length) c then
      bif Nat.ble (off + len + xs.length) rows.length && xs.all (fun r=>r.all AV.storable) then
       some (.slice b off (len + xs.length) (some c),.set b (.row (E.sz elem) (rows.take (off + len) ++ xs ++ rows.drop (off + len + xs.length)))) else none
      else bif a2s E elem (len + xs.length) then
       some (.slice n 0 (len + xs.length) none,.new (.row (E.sz elem) ((rows.drop off).take len ++ xs))) else none
     else none
    | _=>none
   | _=>none
 | _,_=>none
theorem VRels.flat_append {as bs:List (List AV)} {xs ys:List Value} (h:VRels I w ρ as.flatten xs) (k:VRels I w ρ bs.flatten ys):VRels I w ρ (as ++ bs).flatten (xs ++ ys):=by
 rw [List.flatten_append];exact VRels.append h k
theorem b2z (ok:EnvOk E) (r:HRel E.G I K ρ h w) (hn:h n = none) (hρ:ρ n = none) {st xt elem:TypeId} {dx:TypeDesc} (hu:E.und st = some (.slice elem)) (hxt:E.und xt = some dx)
 (hnint:a39 dx = false) {z:List AV} (hz:E.zero elem = some z) (hsz:0 < E.sz elem) {base:Option Addr} {sLen sCap m:Nat} {cx:Value} {old new:Array Value} (ty:TypeId) {ss xs:List (List AV)}
 (hlen:(Builtin.lenOf cx).run E.P w = .ok m w) (hneed:sCap < sLen + m) (hroom:a2s E elem (sLen + m) = true)
 (hold:∀ w',SameMem w w' → (Builtin.firstCells (E.sz elem) sLen (.slice base sLen sCap)).run E.P w' = .ok old w')
 (hnew:∀ w',SameMem w w' → (Builtin.firstCells (E.sz elem) m cx).run E.P w' = .ok new w')
 (hss:VRels I w ρ ss.flatten old.toList) (hxs:VRels I w ρ xs.flatten new.toList) (hsk:∀ r ∈ ss,r.length = E.sz elem) (hxk:∀ r ∈ xs,r.length = E.sz elem)
 (hsl:ss.length = sLen) (hxl:xs.length = m) {e:Eff} (he:e = .new (.row (E.sz elem) (ss ++ xs)) ∨ ∃ b,e = .kill b (.row (E.sz elem) (ss ++ xs))) :
 Val E I K ρ h n w (Builtin.append_ #[st,xt] ty #[.slice base sLen sCap,cx]) (.slice n 0 (sLen + m) none) e:=by
 obtain ⟨newCap,zs,w0,hw0,hcap,hzl,hrun⟩:=b3f ok hu hxt hnint hz ty hlen hneed hroom hold hnew
 generalize hcells:old ++ new ++ (List.replicate (newCap - (sLen + m)) zs).flatten.toArray = cells at hrun
 have hflat:∀ m,(List.replicate m zs).flatten.length = m * E.sz elem:=by
  intro m;induction m with
  | zero=>simp
  | succ m ih=>rw [List.replicate_succ,List.flatten_cons,List.length_append,ih,hzl,Nat.succ_mul,Nat.add_comm]
 have hol:old.size = sLen * E.sz elem:=by
  have:=VRels.length hss;rw [a0t hsk,hsl,Array.length_toList] at this;exact this.symm
 have hnl:new.size = m * E.sz elem:=by
  have:=VRels.length hxs;rw [a0t hxk,hxl,Array.length_toList] at this;exact this.symm
 have hsize:cells.size = newCap * E.sz elem:=by
  subst hcells
  simp only [Array.size_append,hol,hnl,List.size_toArray,hflat]
  rw [← Nat.add_mul,← Nat.add_mul]
  congr 1;omega
 have hwm:∀ c,I c → ({ w0 with heap:=w0.heap.push (.cells cells elem) }:World).heap[c]? = w.heap[c]?:=by
  intro c hc
  have:=r.imm c hc
  show (w0.heap.push _)[c]? = _
  rw [hw0.1,Array.getElem?_push,if_neg (by omega)]
 have hnewb:({ w0 with heap:=w0.heap.push (.cells cells elem) }:World).heap[w.heap.size]? = some (.cells cells elem (0,0)):=by
  show (w0.heap.push _)[_]? = _
  rw [hw0.1];simp
 have hset:=PMap.set_old (m:=⟨w.heap.size,0,E.sz elem,cells.size⟩) hρ
 have ho:ORel E.G I { w0 with heap:=w0.heap.push (.cells cells elem) } (ρ.set n ⟨w.heap.size,0,E.sz elem,cells.size⟩) ⟨w.heap.size,0,E.sz elem,cells.size⟩ (.row (E.sz elem) (ss ++ xs)):=by
  refine ⟨rfl,hsz,⟨cells,elem,hnewb,rfl,?_⟩,?_⟩
  ·show 0 + (ss ++ xs).length * E.sz elem ≤ cells.size
   rw [List.length_append,hsl,hxl,hsize,Nat.zero_add]
   exact Nat.mul_le_mul_right _ hcap
  ·rw [VRows.iff]
   refine ⟨by intro x hx;rcases List.mem_append.1 hx with h|h;exact hsk x h;exact hxk x h,?_⟩
   refine VAt.of_cells (cs:=(old ++ new).toList) (CellsAt.of_heap hnewb (fun j v hj=>?_)) ?_
   ·subst hcells
    have hj':=(List.getElem?_eq_some_iff.1 hj).1
    simp only [Array.length_toList] at hj'
    rw [Nat.zero_add,Array.getElem?_append_left hj',← Array.getElem?_toList]
    exact hj
   ·rw [Array.toList_append]
    exact VRels.mono (fun _ h=>h) hwm _ hset (VRels.flat_append hss hxs)
 refine ⟨_,_,ρ.set n ⟨w.heap.size,0,E.sz elem,cells.size⟩,hrun,?_,?_,Moves.set _ _ _ (by rcases he with rfl|⟨b,rfl⟩<;>rfl)⟩
 ·rcases he with rfl|⟨b,rfl⟩
  ·exact a2c (ob:=.cells cells elem) r hn hρ (by show w0.heap.push _ = _;rw [hw0.1]) hw0.2.1 hw0.2.2.1 hw0.2.2.2 rfl ho
  ·exact b2k (ob:=.cells cells elem) r hn hρ b (by show w0.heap.push _ = _;rw [hw0.1]) hw0.2.1 hw0.2.2.1 hw0.2.2.2 rfl ho
 ·simp only [VRel]
  refine ⟨_,newCap,rfl,hcap,(fun q hq=>by cases hq),.inr ⟨_,by simp [PMap.set];rfl,by simp,?_⟩⟩
  show 0 + (0 + newCap) * E.sz elem ≤ cells.size
  rw [hsize,Nat.zero_add,Nat.zero_add]
  exact Nat.le_refl _
theorem b6l (ok:EnvOk E) (r:HRel E.G I K ρ h w) {st xt elem:TypeId} {dx de:TypeDesc} (hu:E.und st = some (.slice elem)) (hde:E.und elem = some de) (hxt:E.und xt = some dx)
 (hnint:a39 dx = false) {m:Pl} {b off sLen sCap nn:Nat} {rows xs:List (List AV)} {cx:Value} {new:Array Value} (ty:TypeId)
 (hb:h b = some (.row (E.sz elem) rows)) (hm:ρ b = some m) (hrl:off + sLen ≤ rows.length) (hroom:m.off + (off + sCap) * m.k ≤ m.room)
 (hlen:(Builtin.lenOf cx).run E.P w = .ok nn w) (hle:sLen + nn ≤ sCap) (hnew:(Builtin.firstCells (E.sz elem) nn cx).run E.P w = .ok new w)
 (hxs:VRels I w ρ xs.flatten new.toList) (hxk:∀ r ∈ xs,r.length = E.sz elem) (hxl:xs.length = nn) (hst:xs.all (fun r=>r.all AV.storable) = true) :
 ∃ w',(Builtin.append_ #[st,xt] ty #[.slice (some ⟨m.blk,m.off + off * m.k,none⟩) sLen sCap,cx]).run E.P w = .ok (.slice (some ⟨m.blk,m.off + off * m.k,none⟩) (sLen + nn) sCap) w' ∧
  w'.heap.size = w.heap.size ∧ (∀ c,c ≠ m.blk → w'.heap[c]? = w.heap[c]?) ∧ w'.tape = w.tape ∧ w'.os = w.os ∧ w'.output = w.output ∧
  (∃ arr e,w'.heap[m.blk]? = some (.cells arr e (0,0)) ∧ arr.size = m.room) ∧ VRows I w' (E.sz elem) ρ (rows.take (off + sLen) ++ xs) m.blk m.off ∧
  (∀ x,m.off + (off + sLen + nn) * E.sz elem ≤ x → w'.cell? ⟨m.blk,x,none⟩ = w.cell? ⟨m.blk,x,none⟩):=by
 obtain ⟨m',hm',hnI,_,ho⟩:=r.live b _ hb
 obtain rfl:m = m':=z9o (hm.symm.trans hm')
 obtain ⟨hk,hk0,⟨arr,el,hblk,hsize,_⟩,hrows⟩:=ho
 have hnl:new.toList.length = nn * E.sz elem:=by
  have:=VRels.length hxs;rw [a0t hxk,hxl] at this;exact this.symm
 have hflat:xs.flatten.all AV.storable = true:=by
  rw [List.all_eq_true] at hst ⊢
  intro v hv
  obtain ⟨l,hl,hvl⟩:=List.mem_flatten.1 hv
  exact List.all_eq_true.1 (hst l hl) v hvl
 have haddr:(⟨m.blk,m.off + off * m.k,none⟩:Addr).add (sLen * E.sz elem) = ⟨m.blk,m.off + (off + sLen) * E.sz elem,none⟩:=by
  rw [a4h,hk,Nat.add_mul,Nat.add_assoc]
 have hfit:m.off + (off + sLen) * E.sz elem + new.toList.length ≤ arr.size:=by
  rw [hsize,hnl,Nat.add_assoc,← Nat.add_mul]
  rw [hk] at hroom
  have:(off + sLen + nn) * E.sz elem ≤ (off + sCap) * E.sz elem:=Nat.mul_le_mul_right _ (by omega)
  omega
 obtain ⟨w',hrun,⟨arr',hb',hsz'⟩,hoth,hsz,ht,hos,hout,hcells,hcell⟩:=b76 (w:=w) (blk:=m.blk) (o:=m.off + (off + sLen) * E.sz elem) new.toList hblk hfit (VRels.storable hxs hflat) E.P
 have hIw:∀ c,I c → w'.heap[c]? = w.heap[c]?:=fun c hc=>hoth c (fun e=>hnI (e ▸ hc))
 refine ⟨w',?_,hsz,hoth,ht,hos,hout,⟨arr',el,hb',by omega⟩,?_,?_⟩
 ·exact a34 ok hu hde hxt hnint ty hlen hle hnew (fun a ha=>by cases ha;rw [haddr];exact hrun) (fun h=>by cases h)
 ·rw [VRows.append]
  have htl:(rows.take (off + sLen)).length = off + sLen:=by simp;omega
  refine ⟨?_,?_⟩
  ·refine VRows.mono_cells (fun _ h=>h) hIw (fun _ _ h=>h) (fun j hj=>hcell _ (.inl ?_)) (VRows.take (off + sLen) hrows)
   rw [htl] at hj;omega
  ·rw [VRows.iff,htl]
   exact ⟨hxk,VAt.of_cells hcells (VRels.mono (fun _ h=>h) hIw _ (fun _ _ h=>h) hxs)⟩
 ·intro x hx
  refine hcell x (.inr ?_)
  rw [hnl,Nat.add_assoc,← Nat.add_mul];exact hx
theorem c6j (ok:EnvOk E) (r:HRel E.G I K ρ h w) (hn:h n = none) (hρ:ρ n = none) {st xt:TypeId} {s x v:AV} {e:Eff} {cs cx:Value} (ty:TypeId)
 (ha:a4i E h n st xt s x = some (v,e)) (hs:VRel I w ρ s cs) (hx:VRel I w ρ x cx):Val E I K ρ h n w (Builtin.append_ #[st,xt] ty #[cs,cx]) v e:=by
 unfold a4i at ha
 split at ha
 case h_2=>cases ha
 rename_i elem dx hu hxt
 rw [cond_eq_ite] at ha
 split at ha
 case isTrue=>cases ha
 rename_i hc
 simp only [Bool.or_eq_true,Bool.not_eq_true',not_or,Bool.not_eq_true,Bool.not_eq_false,Nat.blt_eq] at hc
 obtain ⟨⟨hnint,hzs⟩,hsz⟩:=hc
 obtain ⟨z,hz⟩:=Option.isSome_iff_exists.1 hzs
 obtain ⟨⟨de,hde⟩,_⟩:=ok.zero elem z hz
 split at ha
 case h_1=>cases ha
 rename_i xs hxs
 obtain ⟨hlen,⟨new,hnew,hnr⟩,hxk⟩:=a4v r hxs hx
 have hnew0:=hnew w ⟨rfl,rfl,rfl,rfl⟩
 split at ha
 · -- nil
  simp only [VRel] at hs
  subst hs
  split at ha
  ·cases ha
   refine Val.here (c:=.slice none 0 0) r ?_ (by simp [VRel])
   exact a34 ok hu hde hxt hnint ty hlen (by simp) hnew0 (fun a h=>by cases h) (fun _=>rfl)
  ·rename_i y ys
   rw [cond_eq_ite] at ha
   split at ha
   case isFalse=>cases ha
   rename_i hroom;cases ha
   have:=b2z (ss:=[]) (old:=#[]) (base:=none) (sLen:=0) (sCap:=0) (e:=.new (.row (E.sz elem) ([] ++ (y :: ys)))) ok r hn hρ hu hxt hnint hz hsz ty hlen (by simp) (by simpa using hroom)
    (fun w' _=>rfl) hnew (by simp [VRels]) hnr (by simp) hxk rfl rfl (.inl rfl)
   simpa using this
 · -- immutable memory
  rename_i rows cap
  rw [cond_eq_ite] at ha
  split at ha
  case isFalse=>cases ha
  rename_i hall
  have hs':=hs
  simp only [VRel] at hs'
  obtain ⟨a,cc,kk,rfl,hle,hcap,hor⟩:=hs'
  split at ha
  ·cases ha
   refine Val.here r ?_ hs
   have:=a34 ok hu hde hxt hnint (base:=some a) (sLen:=rows.length) (sCap:=cc) ty (w':=w) hlen (by simpa using hle) hnew0 (fun a' h=>by
    have:new.toList = []:=by have:=VRels.length hnr;simpa using this.symm
    rw [this];rfl) (fun h=>by cases h)
   simpa using this
  ·rename_i y ys
   split at ha
   case h_2=>cases ha
   rename_i c
   rw [cond_eq_ite] at ha
   split at ha
   case isFalse=>cases ha
   rename_i hroom;cases ha
   simp only [Bool.and_eq_true,Nat.blt_eq] at hroom
   obtain ⟨_,⟨old,hold,hor'⟩,hsk⟩:=a4v (k:=E.sz elem) (xs:=rows) r (by simp only [a2j,hall,cond_true]) hs
   have hcc:=hcap c rfl
   exact b2z ok r hn hρ hu hxt hnint hz hsz ty hlen (by omega) hroom.2 hold hnew hor' hnr hsk hxk rfl rfl (.inl rfl)
 · -- a mutable block
  rename_i b off len cap
  split at ha
  case h_2=>cases ha
  rename_i kk rows hb
  rw [cond_eq_ite] at ha
  split at ha
  case isFalse=>cases ha
  rename_i hcc
  simp only [Bool.and_eq_true,beq_iff_eq,Nat.ble_eq] at hcc
  obtain ⟨rfl,hfit⟩:=hcc
  have hs':=hs
  simp only [VRel] at hs'
  obtain ⟨a,c,rfl,hle,hcap,hor⟩:=hs'
  obtain ⟨hslen,⟨old,hold,hor'⟩,hsk⟩:=a4v (k:=E.sz elem) (xs:=(rows.drop off).take len) r (by simp only [a2j,hb,beq_self_eq_true,Bool.true_and,Nat.ble_eq_true_of_le hfit,cond_true]) hs
  have hsl:((rows.drop off).take len).length = len:=by simp;omega
  rw [hsl] at hold
  split at ha
  · -- capacity unknown
   rw [cond_eq_ite] at ha
   split at ha
   case isFalse=>cases ha
   rename_i hall;cases ha
   simp only [Bool.and_eq_true] at hall
   obtain ⟨hroom,hst⟩:=hall
   have hR:(bif Nat.beq (off + len) rows.length then rows.drop off ++ xs else (rows.drop off).take len ++ xs) = (rows.drop off).take len ++ xs:=by
    cases hq:Nat.beq (off + len) rows.length with
    | false=>rfl
    | true=>
     have heq:=Nat.eq_of_beq_eq_true hq
     rw [cond_true,List.take_of_length_le (by simp;omega)]
   rw [hR]
   by_cases hfits:len + xs.length ≤ c
   ·rcases hor with rfl|⟨m,hm,rfl,hmr⟩
    · -- no capacity at all: nothing is appended to nothing
     have h0:len = 0:=by omega
     have hx0:xs = []:=List.length_eq_zero_iff.1 (by omega)
     subst h0 hx0
     obtain ⟨m,hm,hnI,hnK,hk,hk0,⟨arr,el,hblk,hsize,hfit2⟩,hrows⟩:=r.live b _ hb
     have hd:(rows.drop off).take 0 = []:=List.take_zero
     have hset:=PMap.set_old (m:=⟨m.blk,m.off,m.k,m.room⟩) hρ
     refine ⟨.slice (some a) 0 0,w,ρ.set n ⟨m.blk,m.off,m.k,m.room⟩,?_,?_,?_,Moves.set _ _ _ rfl⟩
     ·have:=a34 ok hu hde hxt hnint (base:=some a) (sLen:=0) (sCap:=0) ty (w':=w) hlen (by simp) hnew0 (fun a' h=>by
       have:new.toList = []:=by have:=VRels.length hnr;simpa using this.symm
       rw [this];rfl) (fun h=>by cases h)
      simpa using this
     ·refine a6w (mb:=m) r hn hρ hb hm rfl rfl (fun _ _=>rfl) rfl rfl rfl ?_
      refine ⟨hk,hk0,⟨arr,el,hblk,hsize,?_⟩,?_⟩
      ·simp [hd];omega
      ·simp [hd,VRows]
     ·simp only [VRel]
      exact ⟨a,0,rfl,by simp,(fun q hq=>by cases hq),.inl rfl⟩
    ·obtain ⟨w',hrun,hsz',hoth,ht,hos,hout,⟨arr,el,hb',harr⟩,hrows',_⟩:=b6l (nn:=xs.length) ok r hu hde hxt hnint ty hb hm hfit hmr hlen hfits hnew0 hnr hxk rfl hst
     obtain ⟨m',hm',hnI,hnK,hk,hk0,_,_⟩:=r.live b _ hb
     obtain rfl:m = m':=z9o (hm.symm.trans hm')
     have hset:=PMap.set_old (m:=⟨m.blk,m.off + off * m.k,m.k,m.room⟩) hρ
     have hIw:∀ c,I c → w'.heap[c]? = w.heap[c]?:=fun c hc=>hoth c (fun e=>hnI (e ▸ hc))
     refine ⟨_,w',ρ.set n ⟨m.blk,m.off + off * m.k,m.k,m.room⟩,hrun,?_,?_,Moves.set _ _ _ rfl⟩
     ·refine a6w (mb:=m) r hn hρ hb hm rfl hsz' hoth ht hos hout ?_
      have hlen2:((rows.drop off).take len ++ xs).length = len + xs.length:=by rw [List.length_append,hsl]
      refine ⟨hk,hk0,⟨arr,el,hb',harr,?_⟩,?_⟩
      ·rw [hlen2,← hk,Nat.add_assoc,← Nat.add_mul]
       have:(off + (len + xs.length)) * m.k ≤ (off + c) * m.k:=Nat.mul_le_mul_right _ (by omega)
       exact Nat.le_trans (Nat.add_le_add_left this m.off) hmr
      ·have h1:=VRows.drop (rs:=rows.take (off + len) ++ xs) off (by simp;omega) hrows'
       rw [List.drop_append_of_le_length (by rw [List.length_take];omega),List.drop_take,Nat.add_sub_cancel_left] at h1
       rw [show off * E.sz elem = off * m.k by rw [hk]] at h1
       exact VRows.mono (fun _ h=>h) (fun _ _=>rfl) _ hset rfl h1
     ·simp only [VRel]
      refine ⟨_,c,rfl,hfits,(fun q hq=>by cases hq),.inr ⟨_,by simp [PMap.set];rfl,by simp,?_⟩⟩
      show m.off + off * m.k + (0 + c) * m.k ≤ m.room
      rw [Nat.zero_add,Nat.add_assoc,← Nat.add_mul];exact hmr
   ·have:=b2z (e:=.kill b (.row (E.sz elem) ((rows.drop off).take len ++ xs))) ok r hn hρ hu hxt hnint hz hsz ty hlen (by omega) hroom hold hnew hor' hnr hsk hxk hsl rfl (.inr ⟨b,rfl⟩)
    exact this
  · -- capacity known
   rename_i c'
   have hcc':c = c':=hcap c' rfl
   subst hcc'
   rw [cond_eq_ite] at ha
   split at ha
   ·rename_i hfits
    simp only [Nat.ble_eq] at hfits
    rw [cond_eq_ite] at ha
    split at ha
    case isFalse=>cases ha
    rename_i hall;cases ha
    simp only [Bool.and_eq_true,Nat.ble_eq] at hall
    obtain ⟨hext,hst⟩:=hall
    rcases hor with rfl|⟨m,hm,rfl,hmr⟩
    ·have h0:len = 0:=by omega
     have hx0:xs = []:=List.length_eq_zero_iff.1 (by omega)
     subst h0 hx0
     have hrows:rows.take (off + 0) ++ [] ++ rows.drop (off + 0 + ([]:List (List AV)).length) = rows:=by simp
     rw [hrows]
     refine ⟨.slice (some a) 0 0,w,ρ,?_,?_,?_,Moves.same _ _ _⟩
     ·have:=a34 ok hu hde hxt hnint (base:=some a) (sLen:=0) (sCap:=0) ty (w':=w) hlen (by simp) hnew0 (fun a' h=>by
       have:new.toList = []:=by have:=VRels.length hnr;simpa using this.symm
       rw [this];rfl) (fun h=>by cases h)
      simpa using this
     ·obtain ⟨m,hm,_,_,ho⟩:=r.live b _ hb
      exact a1v r hb hm rfl (fun _ _=>rfl) rfl rfl rfl ho
     ·simp only [VRel];exact ⟨a,0,rfl,by simp,(fun q hq=>by cases hq;rfl),.inl rfl⟩
    ·obtain ⟨w',hrun,hsz',hoth,ht,hos,hout,⟨arr,el,hb',harr⟩,hrows',hcell⟩:=b6l (nn:=xs.length) ok r hu hde hxt hnint ty hb hm hfit hmr hlen hfits hnew0 hnr hxk rfl hst
     obtain ⟨m',hm',hnI,hnK,hk,hk0,⟨_,_,_,_,hfit2⟩,hrows0⟩:=r.live b _ hb
     obtain rfl:m = m':=z9o (hm.symm.trans hm')
     have hIw:∀ c,I c → w'.heap[c]? = w.heap[c]?:=fun c hc=>hoth c (fun e=>hnI (e ▸ hc))
     have hlen2:(rows.take (off + len) ++ xs).length = off + len + xs.length:=by simp;omega
     refine ⟨_,w',ρ,hrun,?_,?_,Moves.same _ _ _⟩
     ·refine a1v r hb hm hsz' hoth ht hos hout ⟨hk,hk0,⟨arr,el,hb',harr,?_⟩,?_⟩
      ·have:(rows.take (off + len) ++ xs ++ rows.drop (off + len + xs.length)).length = rows.length:=by
        rw [List.length_append,hlen2];simp;omega
       rw [this];exact hfit2
      ·rw [VRows.append]
       refine ⟨hrows',?_⟩
       rw [hlen2]
       refine VRows.mono_cells (fun _ h=>h) hIw (fun _ _ h=>h) (fun j hj=>hcell _ (by omega)) (VRows.drop (off + len + xs.length) hext hrows0)
     ·simp only [VRel]
      exact ⟨_,c,rfl,hfits,(fun q hq=>by cases hq;rfl),.inr ⟨m,hm,rfl,hmr⟩⟩
   ·rename_i hnf
    rw [cond_eq_ite] at ha
    split at ha
    case isFalse=>cases ha
    rename_i hroom;cases ha
    have hnf:¬ (len + xs.length ≤ c):=by simpa using hnf
    exact b2z ok r hn hρ hu hxt hnint hz hsz ty hlen (by omega) hroom hold hnew hor' hnr hsk hxk hsl rfl (.inl rfl)
 ·cases ha
end
end Go.Ax
/- AxBlt: len, cap, min, max, copy. -/
namespace Go.Ax
section
variable {E:Env} {I K:Nat → Prop} {ρ:PMap} {h:FHeap} {n:Nat} {w:World}
def c1e (E:Env) (h:FHeap) (t:TypeId) (x:AV):Option AV:=
 match E.und t,x with
 | some .string,.str s=>some (.int .i64 s.length)
 | some (.array n _),x=>bif x.isJunk then none else some (.int .i64 n)
 | some (.slice _),.nilslice=>some (.int .i64 0)
 | some (.slice _),.slice _ _ len _=>some (.int .i64 len)
 | some (.slice _),.islice rows _=>some (.int .i64 rows.length)
 | some (.map _ _),.nilmap=>some (.int .i64 0)
 | some (.map _ _),.imap ks _ _ _=>some (.int .i64 ks.length)
 | some (.map _ _),.iset ks=>some (.int .i64 ks.length)
 | some (.map _ _),.map b=>match h b with
  | some (.map ks _ _ _)=>some (.int .i64 ks.length)
  | some (.uset ks)=>some (.int .i64 ks.length)
  | _=>none
 | _,_=>none
theorem d8y (ok:EnvOk E) (r:HRel E.G I K ρ h w) {t:TypeId} {x v:AV} {c:Value} (ty:TypeId) (hv:c1e E h t x = some v) (hx:VRel I w ρ x c) :
 Val E I K ρ h n w (Builtin.len_ #[t] ty #[c]) v .none:=by
 unfold c1e at hv
 split at hv
 ·rename_i hu;cases hv;simp only [VRel] at hx;obtain ⟨tb,rfl,ht⟩:=hx
  have:tb.size = tb.data.toList.length:=by rw [Array.length_toList];rfl
  exact Val.here (c:=goInt tb.size) r (by simp [Builtin.len_,a08 ok w hu]) (by rw [← ht,this];simp [goInt,VRel])
 ·rename_i y m e hu
  rw [cond_eq_ite] at hv
  split at hv
  ·cases hv
  ·cases hv
   refine Val.here (c:=goInt m) r ?_ (by simp [goInt,VRel])
   cases c<;>simp [Builtin.len_,a08 ok w hu]
 ·rename_i hu;cases hv;simp only [VRel] at hx;subst hx
  exact Val.here (c:=goInt 0) r (by simp [Builtin.len_,a08 ok w hu]) (by simp [goInt,VRel])
 ·rename_i hu;cases hv;simp only [VRel] at hx;obtain ⟨a,cc,rfl,_⟩:=hx
  exact Val.here (c:=goInt _) r (by simp [Builtin.len_,a08 ok w hu];rfl) (by simp [goInt,VRel])
 ·rename_i hu;cases hv;simp only [VRel] at hx;obtain ⟨a,cc,k,rfl,_⟩:=hx
  exact Val.here (c:=goInt _) r (by simp [Builtin.len_,a08 ok w hu];rfl) (by simp [goInt,VRel])
 ·rename_i hu;cases hv;simp only [VRel] at hx;subst hx
  exact Val.here (c:=goInt 0) r (by simp [Builtin.len_,a08 ok w hu]) (by simp [goInt,VRel])
 ·rename_i hu;cases hv;simp only [VRel] at hx;obtain ⟨cc,es,rfl,_,he,hks,_,_⟩:=hx
  have hl:=VRels.length hks
  simp only [List.length_map,Array.length_toList] at hl
  refine Val.here (c:=goInt es.size) r ?_ (by rw [hl];simp [goInt,VRel])
  simp [Builtin.len_,a08 ok w hu,getObj,Sem.run,he]
 ·rename_i hu;cases hv;simp only [VRel] at hx;obtain ⟨cc,es,cl,rfl,_,he,hs⟩:=hx
  have hl:=hs.1.length_eq
  simp only [List.length_map,Array.length_toList] at hl
  refine Val.here (c:=goInt es.size) r ?_ (by rw [hl];simp [goInt,VRel])
  simp [Builtin.len_,a08 ok w hu,getObj,Sem.run,he]
 ·rename_i b hu
  split at hv
  case h_3=>cases hv
  case h_2=>
   rename_i ks hb
   cases hv
   simp only [VRel] at hx;obtain ⟨m,hm,rfl⟩:=hx
   obtain ⟨m',hm',_,_,ho⟩:=r.live b _ hb
   obtain rfl:m = m':=z9o (hm.symm.trans hm')
   obtain ⟨es,cl,he,hs⟩:=ho
   have hl:=hs.1.length_eq
   simp only [List.length_map,Array.length_toList] at hl
   refine Val.here (c:=goInt es.size) r ?_ (by rw [hl];simp [goInt,VRel])
   simp [Builtin.len_,a08 ok w hu,getObj,Sem.run,he]
  rename_i ks vs bs cl hb
  cases hv
  simp only [VRel] at hx;obtain ⟨m,hm,rfl⟩:=hx
  obtain ⟨m',hm',_,_,ho⟩:=r.live b _ hb
  obtain rfl:m = m':=z9o (hm.symm.trans hm')
  obtain ⟨es,he,hks,_,_⟩:=ho
  have hl:=VRels.length hks
  simp only [List.length_map,Array.length_toList] at hl
  refine Val.here (c:=goInt es.size) r ?_ (by rw [hl];simp [goInt,VRel])
  simp [Builtin.len_,a08 ok w hu,getObj,Sem.run,he]
 ·cases hv
def d4d (E:Env) (t:TypeId) (x:AV):Option AV:=
 match E.und t,x with
 | some (.slice _),.nilslice=>some (.int .i64 0)
 | some (.slice _),.slice _ _ _ (some c)=>some (.int .i64 c)
 | some (.slice _),.islice _ (some c)=>some (.int .i64 c)
 | _,_=>none
theorem d94 (ok:EnvOk E) (r:HRel E.G I K ρ h w) {t:TypeId} {x v:AV} {c:Value} (ty:TypeId) (hv:d4d E t x = some v) (hx:VRel I w ρ x c) :
 Val E I K ρ h n w (Builtin.cap_ #[t] ty #[c]) v .none:=by
 unfold d4d at hv
 split at hv
 ·rename_i hu;cases hv;simp only [VRel] at hx;subst hx
  exact Val.here (c:=goInt 0) r (by simp [Builtin.cap_,a08 ok w hu]) (by simp [goInt,VRel])
 ·rename_i hu;cases hv;simp only [VRel] at hx;obtain ⟨a,cc,rfl,_,hc,_⟩:=hx
  have:=hc _ rfl
  exact Val.here (c:=goInt cc) r (by simp [Builtin.cap_,a08 ok w hu]) (by rw [this];simp [goInt,VRel])
 ·rename_i hu;cases hv;simp only [VRel] at hx;obtain ⟨a,cc,k,rfl,_,hc,_⟩:=hx
  have:=hc _ rfl
  exact Val.here (c:=goInt cc) r (by simp [Builtin.cap_,a08 ok w hu]) (by rw [this];simp [goInt,VRel])
 ·cases hv
def d5r:AV → List AV → Option AV
 | x,[]=>match x with|.int k a=>some (.int k a)|_=>none
 | .int k a,.int _ b :: r=>d5r (.int k (if b < a then b else a)) r
 | _,_ :: _=>none
def d46:AV → List AV → Option AV
 | x,[]=>match x with|.int k a=>some (.int k a)|_=>none
 | .int k a,.int _ b :: r=>d46 (.int k (if b > a then b else a)) r
 | _,_ :: _=>none
theorem d0h:∀ {xs:List AV} {x v:AV} {c:Value} {cs:List Value},d5r x xs = some v → VRel I w ρ x c → VRels I w ρ xs cs →
 ∃ d,(cs.foldlM Builtin.min2 c).run E.P w = .ok d w ∧ VRel I w ρ v d
 | [],x,v,c,cs,hv,hx,hxs=>by
  simp only [VRels] at hxs;subst hxs
  simp only [d5r] at hv
  split at hv
  ·cases hv;exact ⟨c,by simp,hx⟩
  ·cases hv
 | y :: ys,x,v,c,cs,hv,hx,hxs=>by
  simp only [VRels] at hxs
  obtain ⟨cy,cs',rfl,hy,hys⟩:=hxs
  unfold d5r at hv
  split at hv
  ·rename_i h;cases h
  ·rename_i k a k' b r he
   cases he
   simp only [VRel] at hx hy;subst hx hy
   obtain ⟨d,h1,h2⟩:=d0h (c:=.int k (if b < a then b else a)) hv (by simp [VRel]) hys
   exact ⟨d,by simp only [List.foldlM_cons,Builtin.min2,Sem.run_bind,Sem.run_pure,Result.andThen_ok,h1],h2⟩
  ·cases hv
theorem d0i:∀ {xs:List AV} {x v:AV} {c:Value} {cs:List Value},d46 x xs = some v → VRel I w ρ x c → VRels I w ρ xs cs →
 ∃ d,(cs.foldlM Builtin.max2 c).run E.P w = .ok d w ∧ VRel I w ρ v d
 | [],x,v,c,cs,hv,hx,hxs=>by
  simp only [VRels] at hxs;subst hxs
  simp only [d46] at hv
  split at hv
  ·cases hv;exact ⟨c,by simp,hx⟩
  ·cases hv
 | y :: ys,x,v,c,cs,hv,hx,hxs=>by
  simp only [VRels] at hxs
  obtain ⟨cy,cs',rfl,hy,hys⟩:=hxs
  unfold d46 at hv
  split at hv
  ·rename_i h;cases h
  ·rename_i k a k' b r he
   cases he
   simp only [VRel] at hx hy;subst hx hy
   obtain ⟨d,h1,h2⟩:=d0i (c:=.int k (if b > a then b else a)) hv (by simp [VRel]) hys
   exact ⟨d,by simp only [List.foldlM_cons,Builtin.max2,Sem.run_bind,Sem.run_pure,Result.andThen_ok,h1],h2⟩
  ·cases hv
theorem a9z (r:HRel E.G I K ρ h w) {k:Nat} {x:AV} {xs:List (List AV)} {c:Value} (ha:a2j h k x = some xs) (hx:VRel I w ρ x c) (j:Nat) (hj:j ≤ xs.length) :
 ∃ cv:Array Value,(Builtin.firstCells k j c).run E.P w = .ok cv w ∧ VRels I w ρ (xs.take j).flatten cv.toList:=by
 have hjl:(xs.take j).length = j:=by simp;omega
 have key:∀ (a:Addr) (n cap:Nat),a.spot = none → VAt I w ρ (xs.take j).flatten a.block a.off → (∀ r ∈ xs.take j,r.length = k) → ∃ cv:Array Value,(Builtin.firstCells k j (.slice (some a) n cap)).run E.P w = .ok cv w ∧ VRels I w ρ (xs.take j).flatten cv.toList:=by
  intro a n cap hs hat hk
  obtain ⟨cv,h1,h2⟩:=VAt.cells hat
  have hl:cv.length = j * k:=by rw [← VRels.length h2,a0t hk,hjl]
  have ha:a = ⟨a.block,a.off,none⟩:=by cases a;simp_all
  refine ⟨cv.toArray,?_,by simpa using h2⟩
  have:=run_loadCells_list (P:=E.P) w a cv (fun i v hi=>by rw [ha,a4h];exact h1 i v hi)
  rw [hl] at this
  simpa [Builtin.firstCells] using this
 obtain ⟨_,_,hall⟩:=a4v r ha hx
 have hallj:∀ r ∈ xs.take j,r.length = k:=fun r hr=>hall r (List.mem_of_mem_take hr)
 unfold a2j at ha
 split at ha
 ·cases ha;simp only [VRel] at hx;subst hx
  exact ⟨#[],rfl,by simp [VRels]⟩
 ·rename_i rows cap
  rw [cond_eq_ite] at ha
  split at ha
  case isFalse=>cases ha
  cases ha
  simp only [VRel] at hx
  obtain ⟨a,cc,kk,rfl,hle,_,hor⟩:=hx
  rcases hor with rfl|⟨hs,hI,hrows⟩
  ·have:j = 0:=by simpa using hj
   subst this
   exact ⟨#[],by simp [Builtin.firstCells,loadCells,loadCellsFrom],by simp [VRels]⟩
  ·exact key a _ _ hs (VAt.noRef_any (VRows.iff.1 (VRows.take j hrows)).2) hallj
 ·rename_i b off len cap
  split at ha
  case h_2=>cases ha
  rename_i k' rows hb
  rw [cond_eq_ite] at ha
  split at ha
  case isFalse=>cases ha
  rename_i hc;cases ha
  simp only [Bool.and_eq_true,beq_iff_eq,Nat.ble_eq] at hc
  obtain ⟨rfl,hfit⟩:=hc
  obtain ⟨m,hm,_,_,ho⟩:=r.live b _ hb
  obtain ⟨hk,hk0,_,hrows⟩:=ho
  simp only [VRel] at hx
  obtain ⟨a,cc,rfl,hle,_,hor⟩:=hx
  rcases hor with rfl|⟨m',hm',rfl,hroom⟩
  ·have:j = 0:=by simp at hj;omega
   subst this
   exact ⟨#[],by simp [Builtin.firstCells,loadCells,loadCellsFrom],by simp [VRels]⟩
  ·obtain rfl:m = m':=z9o (hm.symm.trans hm')
   refine key _ _ _ rfl ?_ hallj
   rw [hk]
   exact (VRows.iff.1 (VRows.take j (VRows.take len (VRows.drop off (by omega) hrows)))).2
 ·rename_i s
  rw [cond_eq_ite] at ha
  split at ha
  case isFalse=>cases ha
  cases ha
  simp only [VRel] at hx
  obtain ⟨t,rfl,ht⟩:=hx
  refine ⟨_,by simp only [Builtin.firstCells,Sem.run_pure];rfl,?_⟩
  rw [Array.toList_map,a6r,← List.map_take]
  simp only [List.drop_zero,ht,Nat.sub_zero]
  exact a9k _
 ·cases ha
theorem b64 (r:HRel E.G I K ρ h w) {m:Pl} {b off k:Nat} {rows xs:List (List AV)} {new:List Value} (hb:h b = some (.row k rows)) (hm:ρ b = some m) (hfit:off + xs.length ≤ rows.length)
 (hxs:VRels I w ρ xs.flatten new) (hxk:∀ r ∈ xs,r.length = k) (hst:xs.all (fun r=>r.all AV.storable) = true) :
 ∃ w',(storeCells ⟨m.blk,m.off + off * m.k,none⟩ new).run E.P w = .ok () w' ∧ Stepped E.G I K ρ w I ρ (h.eff n (.set b (.row k (rows.take off ++ xs ++ rows.drop (off + xs.length))))) w':=by
 obtain ⟨m',hm',hnI,_,ho⟩:=r.live b _ hb
 obtain rfl:m = m':=z9o (hm.symm.trans hm')
 obtain ⟨hk,hk0,⟨arr,el,hblk,hsize,hfit2⟩,hrows⟩:=ho
 have hnl:new.length = xs.length * k:=by
  have:=VRels.length hxs;rw [a0t hxk] at this;exact this.symm
 have hflat:xs.flatten.all AV.storable = true:=by
  rw [List.all_eq_true] at hst ⊢
  intro v hv
  obtain ⟨l,hl,hvl⟩:=List.mem_flatten.1 hv
  exact List.all_eq_true.1 (hst l hl) v hvl
 have hin:m.off + off * m.k + new.length ≤ arr.size:=by
  rw [hsize,hnl,hk,Nat.add_assoc,← Nat.add_mul]
  exact Nat.le_trans (Nat.add_le_add_left (Nat.mul_le_mul_right k hfit) _) hfit2
 obtain ⟨w',hrun,⟨arr',hb',hsz'⟩,hoth,hsz,ht,hos,hout,hcells,hcell⟩:=b76 (w:=w) (blk:=m.blk) (o:=m.off + off * m.k) new hblk hin (VRels.storable hxs hflat) E.P
 have hIw:∀ c,I c → w'.heap[c]? = w.heap[c]?:=fun c hc=>hoth c (fun e=>hnI (e ▸ hc))
 have htl:(rows.take off).length = off:=by simp;omega
 refine ⟨w',hrun,a1v r hb hm hsz hoth ht hos hout ⟨hk,hk0,⟨arr',el,hb',by omega,?_⟩,?_⟩⟩
 ·have:(rows.take off ++ xs ++ rows.drop (off + xs.length)).length = rows.length:=by simp;omega
  rw [this];exact hfit2
 ·rw [VRows.append,VRows.append]
  refine ⟨⟨?_,?_⟩,?_⟩
  ·refine VRows.mono_cells (fun _ h=>h) hIw (fun _ _ h=>h) (fun j hj=>hcell _ (.inl ?_)) (VRows.take off hrows)
   rw [htl] at hj;rw [hk];omega
  ·rw [VRows.iff,htl,← hk]
   exact ⟨by rw [hk];exact hxk,VAt.of_cells hcells (VRels.mono (fun _ h=>h) hIw _ (fun _ _ h=>h) hxs)⟩
  ·rw [List.length_append,htl]
   refine VRows.mono_cells (fun _ h=>h) hIw (fun _ _ h=>h) (fun j hj=>hcell _ (.inr ?_)) (VRows.drop (off + xs.length) hfit hrows)
   rw [hnl,hk,Nat.add_mul];omega
def c6g (E:Env) (h:FHeap) (dt:TypeId) (d x:AV):Option (AV × Eff):=
 match E.und dt with
 | some (.slice elem)=>bif (E.und elem).isSome then
  match a2j h (E.sz elem) x with
  | none=>none
  | some xs=>match d with
   | .nilslice=>some (.int .i64 0,.none)
   | .slice b off len _=>bif Nat.beq len 0 then some (.int .i64 0,.none) else match h b with
    | some (.row kk rows)=>bif kk == E.sz elem && Nat.ble (off + len) rows.length && Nat.blt 0 len && (xs.take len).all (fun r=>r.all AV.storable) then
     some (.int .i64 ((xs.take len).length:Nat),.set b (.row kk (rows.take off ++ xs.take len ++ rows.drop (off + (xs.take len).length)))) else none
    | _=>none
   | _=>none else none
 | _=>none
theorem d4a (ok:EnvOk E) (r:HRel E.G I K ρ h w) {dt xt:TypeId} {d x v:AV} {e:Eff} {cd cx:Value} (ty:TypeId)
 (ha:c6g E h dt d x = some (v,e)) (hd:VRel I w ρ d cd) (hx:VRel I w ρ x cx):Val E I K ρ h n w (Builtin.copy_ #[dt,xt] ty #[cd,cx]) v e:=by
 unfold c6g at ha
 split at ha
 case h_2=>cases ha
 rename_i elem hu
 rw [cond_eq_ite] at ha
 split at ha
 case isFalse=>cases ha
 rename_i hes
 obtain ⟨de,hde⟩:=Option.isSome_iff_exists.1 hes
 split at ha
 case h_1=>cases ha
 rename_i xs hxs
 obtain ⟨hlen,_,hxk⟩:=a4v r hxs hx
 split at ha
 ·cases ha
  simp only [VRel] at hd
  subst hd
  obtain ⟨cv,h1,h2⟩:=a9z r hxs hx 0 (by omega)
  refine Val.here (c:=goInt 0) r ?_ (by simp [goInt,VRel])
  have hmin:Nat.min xs.length 0 = 0:=Nat.min_zero _
  simp only [Builtin.copy_,List.getElem?_toArray,List.getElem?_cons_zero,List.getElem?_cons_succ,Sem.run_bind,a08 ok w hu,Result.andThen_ok,hlen,a31 ok w hde,hmin,h1,Sem.run_pure]
  rfl
 ·rename_i b off len cap
  rw [cond_eq_ite] at ha
  split at ha
  ·rename_i h0
   have h0:=Nat.eq_of_beq_eq_true h0
   subst h0
   cases ha
   simp only [VRel] at hd
   obtain ⟨a,c,rfl,hle,_,_⟩:=hd
   obtain ⟨cv,h1,h2⟩:=a9z r hxs hx 0 (by omega)
   have hcv:cv.toList = []:=by have:=VRels.length h2;simpa using this.symm
   refine Val.here (c:=goInt 0) r ?_ (by simp [goInt,VRel])
   have hmin:Nat.min xs.length 0 = 0:=Nat.min_zero _
   simp only [Builtin.copy_,List.getElem?_toArray,List.getElem?_cons_zero,List.getElem?_cons_succ,Sem.run_bind,a08 ok w hu,Result.andThen_ok,hlen,a31 ok w hde,hmin,h1,hcv]
   cases a<;>rfl
  split at ha
  case h_2=>cases ha
  rename_i kk rows hb
  rw [cond_eq_ite] at ha
  split at ha
  case isFalse=>cases ha
  rename_i hcc;cases ha
  simp only [Bool.and_eq_true,beq_iff_eq,Nat.ble_eq,Nat.blt_eq] at hcc
  obtain ⟨⟨⟨rfl,hfit⟩,hl0⟩,hst⟩:=hcc
  simp only [VRel] at hd
  obtain ⟨a,c,rfl,hle,_,hor⟩:=hd
  rcases hor with rfl|⟨m,hm,rfl,hroom⟩
  ·omega
  have hml:(xs.take len).length = Nat.min xs.length len:=by rw [List.length_take,Nat.min_comm]
  have hmle:Nat.min xs.length len ≤ xs.length:=Nat.min_le_left _ _
  have hmle2:Nat.min xs.length len ≤ len:=Nat.min_le_right _ _
  obtain ⟨cv,h1,h2⟩:=a9z r hxs hx _ hmle
  have htk:xs.take (Nat.min xs.length len) = xs.take len:=by
   rcases Nat.le_total xs.length len with h|h
   ·rw [show Nat.min xs.length len = xs.length from Nat.min_eq_left h,List.take_length,List.take_of_length_le h]
   ·rw [show Nat.min xs.length len = len from Nat.min_eq_right h]
  rw [htk] at h2
  obtain ⟨w',hrun,hstep⟩:=b64 (n:=n) r hb hm (off:=off) (xs:=xs.take len) (by omega) h2 (fun r hr=>hxk r (List.mem_of_mem_take hr)) hst
  refine ⟨goInt (xs.take len).length,w',ρ,?_,hstep,by simp [goInt,VRel],Moves.same _ _ _⟩
  simp only [Builtin.copy_,List.getElem?_toArray,List.getElem?_cons_zero,List.getElem?_cons_succ,Sem.run_bind,a08 ok w hu,Result.andThen_ok,hlen,a31 ok w hde,h1,hrun,Sem.run_pure,hml]
 ·cases ha
def b71 (E:Env) (h:FHeap) (t:TypeId) (x:AV):Option (AV × Eff):=
 match E.und t,x with
 | some (.slice _),.nilslice=>some (.tuple [],.none)
 | some (.slice elem),.slice b off len _=>bif Nat.beq len 0 then some (.tuple [],.none) else match E.zero elem with
  | some z=>match h b with
   | some (.row kk rows)=>bif kk == E.sz elem && Nat.ble (off + len) rows.length && z.all AV.storable then
    some (.tuple [],.set b (.row kk (rows.take off ++ List.replicate len z ++ rows.drop (off + (List.replicate len z).length)))) else none
   | _=>none
  | none=>none
 | _,_=>none
theorem a86 {z:List AV} {zs:List Value} (hz:VRels I w ρ z zs):∀ n:Nat,VRels I w ρ (List.replicate n z).flatten (List.replicate n zs).flatten
 | 0=>by simp [VRels]
 | n + 1=>by rw [List.replicate_succ,List.replicate_succ,List.flatten_cons,List.flatten_cons];exact VRels.append hz (a86 hz n)
theorem d0u (ok:EnvOk E) (r:HRel E.G I K ρ h w) {t:TypeId} {x v:AV} {e:Eff} {cx:Value} (ty:TypeId)
 (ha:b71 E h t x = some (v,e)) (hx:VRel I w ρ x cx):Val E I K ρ h n w (Builtin.clear_ #[t] ty #[cx]) v e:=by
 unfold b71 at ha
 split at ha
 ·rename_i elem hu
  cases ha
  simp only [VRel] at hx
  subst hx
  refine Val.here (c:=.tuple #[]) r ?_ (by simp only [VRel];exact ⟨#[],rfl,by simp [VRels]⟩)
  simp [Builtin.clear_,a08 ok w hu]
 ·rename_i elem b off len cap hu
  simp only [VRel] at hx
  obtain ⟨a,c,rfl,hle,_,hor⟩:=hx
  rw [cond_eq_ite] at ha
  split at ha
  ·rename_i h0
   have h0:=Nat.eq_of_beq_eq_true h0
   subst h0
   cases ha
   refine Val.here (c:=.tuple #[]) r ?_ (by simp only [VRel];exact ⟨#[],rfl,by simp [VRels]⟩)
   simp [Builtin.clear_,a08 ok w hu]
  rename_i h0
  have hl0:len ≠ 0:=fun e=>h0 (by subst e;rfl)
  split at ha
  case h_2=>cases ha
  rename_i z hz
  split at ha
  case h_2=>cases ha
  rename_i kk rows hb
  rw [cond_eq_ite] at ha
  split at ha
  case isFalse=>cases ha
  rename_i hcc;cases ha
  simp only [Bool.and_eq_true,beq_iff_eq,Nat.ble_eq] at hcc
  obtain ⟨⟨rfl,hfit⟩,hst⟩:=hcc
  rcases hor with rfl|⟨m,hm,rfl,hroom⟩
  ·omega
  obtain ⟨z',hz',hzl,hzr⟩:=a7e ok w hz
  have hrl:=List.length_replicate (n:=len) (a:=z)
  obtain ⟨w',hrun,hstep⟩:=b64 (n:=n) r hb hm (off:=off) (xs:=List.replicate len z) (new:=(List.replicate len z'.cells.toList).flatten) (by omega) (a86 (VRels.noRef_any (hzr I w)) len)
   (fun r hr=>by rw [List.eq_of_mem_replicate hr];exact hzl) (by rw [List.all_eq_true];intro r hr;rw [List.eq_of_mem_replicate hr];exact hst)
  refine ⟨.tuple #[],w',ρ,?_,hstep,by simp only [VRel];exact ⟨#[],rfl,by simp [VRels]⟩,Moves.same _ _ _⟩
  obtain ⟨len',rfl⟩:∃ l,len = l + 1:=⟨len - 1,by omega⟩
  simp only [Builtin.clear_,List.getElem?_toArray,List.getElem?_cons_zero,Sem.run_bind,a08 ok w hu,Result.andThen_ok,hz',a4x,hrun,Sem.run_pure]
 ·cases ha
end
end Go.Ax
/- AxMap: maps with plain keys: lookup, update, delete. -/
namespace Go.Ax
section
variable {E:Env} {I K:Nat → Prop} {ρ:PMap} {h:FHeap} {n:Nat} {w:World}
def a5z:TypeDesc → Bool
 | .int _|.string|.bool=>true
 | _=>false
def c2c (E:Env) (t:TypeId):Bool:=
 match E.und t with
 | some (.struct fs)=>E.eqok t && fs.toList.all fun f=>match E.und f.type with|some d=>a5z d|none=>false
 | some d=>a5z d
 | none=>false
def c15:AV → AV → Bool
 | .int k a,.int k' b=>k == k' && a == b
 | .str a,.str b=>a == b
 | .bool a,.bool b=>a == b
 | _,_=>false
def b5d:List AV → List AV → Bool
 | [],[]=>true
 | a :: as,b :: bs=>c15 a b && b5d as bs
 | _,_=>false
def c6a:AV → AV → Bool
 | .agg a,.agg b=>b5d a b
 | a,b=>c15 a b
theorem c14 {a b:AV} (hs:c15 a b = true) {ca cb:Value} (ha:VRel I w ρ a ca) (hb:VRel I w ρ b cb):ca = cb ∧ ∀ m,Instr.sameBits m ca cb = true:=by
 unfold c15 at hs
 split at hs
 ·simp only [Bool.and_eq_true,beq_iff_eq] at hs
  obtain ⟨rfl,rfl⟩:=hs
  simp only [VRel] at ha hb;subst ha hb
  exact ⟨rfl,fun m=>by cases m<;>simp [Instr.sameBits]⟩
 ·simp only [beq_iff_eq] at hs;subst hs
  simp only [VRel] at ha hb
  obtain ⟨t,rfl,ht⟩:=ha
  obtain ⟨t',rfl,ht'⟩:=hb
  have:t = t':=by
   cases t;cases t'
   simp only [ByteArray.mk.injEq]
   exact Array.toList_inj.1 (ht.trans ht'.symm)
  subst this
  exact ⟨rfl,fun m=>by cases m<;>simp [Instr.sameBits,b58]⟩
 ·simp only [beq_iff_eq] at hs;subst hs
  simp only [VRel] at ha hb;subst ha hb
  exact ⟨rfl,fun m=>by cases m<;>simp [Instr.sameBits]⟩
 ·cases hs
theorem c13:∀ {as bs:List AV} {cs ds:List Value},b5d as bs = true → VRels I w ρ as cs → VRels I w ρ bs ds →
 cs = ds ∧ ∀ m,(cs.zip ds).all (fun (x,y)=>Instr.sameBits m x y) = true
 | [],[],cs,ds,_,ha,hb=>by simp only [VRels] at ha hb;subst ha hb;exact ⟨rfl,by simp⟩
 | a :: as,b :: bs,cs,ds,hs,ha,hb=>by
  simp only [VRels] at ha hb
  obtain ⟨c,cs',rfl,h1,h2⟩:=ha
  obtain ⟨d,ds',rfl,h3,h4⟩:=hb
  simp only [b5d,Bool.and_eq_true] at hs
  obtain ⟨rfl,h5⟩:=c14 hs.1 h1 h3
  obtain ⟨rfl,h6⟩:=c13 hs.2 h2 h4
  exact ⟨rfl,fun m=>by simp only [List.zip_cons_cons,List.all_cons,h5 m,Bool.true_and];exact h6 m⟩
 | [],_ :: _,cs,ds,hs,_,_=>by simp [b5d] at hs
 | _ :: _,[],cs,ds,hs,_,_=>by simp [b5d] at hs
theorem d40 {a b:AV} (hs:c6a a b = true) {ca cb:Value} (ha:VRel I w ρ a ca) (hb:VRel I w ρ b cb):ca = cb ∧ Instr.sameBits 10000 ca cb = true:=by
 unfold c6a at hs
 split at hs
 ·simp only [VRel] at ha hb
  obtain ⟨ca,rfl,ha⟩:=ha
  obtain ⟨cb,rfl,hb⟩:=hb
  obtain ⟨he,h1⟩:=c13 hs ha hb
  have he:ca = cb:=Array.toList_inj.1 he
  subst he
  refine ⟨rfl,?_⟩
  show (ca.size == ca.size && (ca.toList.zip ca.toList).all fun (x,y)=>Instr.sameBits 9999 x y) = true
  rw [h1 9999];simp
 ·obtain ⟨h1,h2⟩:=c14 hs ha hb
  exact ⟨h1,h2 10000⟩
def a1t (eq:AV → AV → Option Bool) (k:AV):List AV → Nat → Option (Option Nat)
 | [],_=>some none
 | x :: xs,i=>match eq k x with
  | some q=>bif q then some (some i) else a1t eq k xs (i + 1)
  | none=>none
theorem b0k (ok:EnvOk E) {kt:TypeId} {k:AV} {ck:Value} (hk:VRel I w ρ k ck):∀ {ks:List AV} {es:List MapEntry} {i:Nat} {r:Option Nat},
 a1t (aeq E 6 kt) k ks i = some r → VRels I w ρ ks (es.map (·.key)) →
 (Instr.findAsking kt ck es i).run E.P w = .ok (r.map fun j=>(j,((es[j - i]?).map (·.val)).getD undef)) w ∧ ∀ j,r = some j → i ≤ j ∧ j - i < es.length
 | [],es,i,r,hf,hks=>by
  simp only [VRels,List.map_eq_nil_iff] at hks;subst hks
  simp only [a1t,Option.some.injEq] at hf;subst hf
  exact ⟨rfl,by simp⟩
 | x :: ks,es,i,r,hf,hks=>by
  cases es with
  | nil=>simp [VRels] at hks
  | cons e es=>
   simp only [List.map_cons,VRels,List.cons.injEq] at hks
   obtain ⟨c,cs,⟨rfl,rfl⟩,hx,hks⟩:=hks
   simp only [a1t] at hf
   split at hf
   case h_2=>cases hf
   rename_i q hq
   have heq:=a5d ok hq hk hx
   unfold Instr.findAsking
   simp only [Sem.run_bind,heq,Result.andThen_ok]
   cases q with
   | true=>simp only [cond_true,Option.some.injEq] at hf;subst hf;exact ⟨by simp,by simp⟩
   | false=>
    simp only [cond_false] at hf
    obtain ⟨h1,h2⟩:=b0k ok hk (es:=es) hf hks
    simp only [Bool.false_eq_true,if_false]
    rw [h1]
    refine ⟨?_,fun j hj=>?_⟩
    ·cases r with
     | none=>rfl
     | some j=>
      obtain ⟨h3,h4⟩:=h2 j rfl
      simp only [Option.map_some]
      rw [show j - i = (j - (i + 1)) + 1 by omega]
      simp
    ·obtain ⟨h3,h4⟩:=h2 j hj
     simp;omega
theorem d93 {t:TypeId} {k0:IntKind} (hu:E.und t = some (.int k0)) {d:Nat} {x y:AV} {q:Bool} (hq:aeq E (d + 1) t x y = some q):∃ k a b,x = .int k a ∧ y = .int k b ∧ q = (a == b):=by
 unfold aeq at hq
 rw [hu] at hq
 split at hq
 case h_2=>
  rw [cond_eq_ite] at hq
  split at hq
  ·rename_i hk;cases hq;have hk:=eq_of_beq hk;subst hk;exact ⟨_,_,_,rfl,rfl,rfl⟩
  ·cases hq
 all_goals (try simp only [Option.some.injEq] at *);subst_vars;simp_all [a2i]
theorem d92 {t:TypeId} (hu:E.und t = some .string) {d:Nat} {x y:AV} {q:Bool} (hq:aeq E (d + 1) t x y = some q):∃ a b,x = .str a ∧ y = .str b ∧ q = (a == b):=by
 unfold aeq at hq
 rw [hu] at hq
 split at hq
 case h_3=>cases hq;exact ⟨_,_,rfl,rfl,rfl⟩
 all_goals (try simp only [Option.some.injEq] at *);subst_vars;simp_all [a2i]
theorem d48 {t:TypeId} (hu:E.und t = some .bool) {d:Nat} {x y:AV} {q:Bool} (hq:aeq E (d + 1) t x y = some q):∃ a b,x = .bool a ∧ y = .bool b ∧ q = (a == b):=by
 unfold aeq at hq
 rw [hu] at hq
 split at hq
 case h_1=>cases hq;exact ⟨_,_,rfl,rfl,rfl⟩
 all_goals (try simp only [Option.some.injEq] at *);subst_vars;simp_all [a2i]
theorem c4y {d:TypeDesc} (hd:a5z d = true) {kt:TypeId} (hu:E.und kt = some d) {k x:AV} {ck cx:Value} {q:Bool} (hk:VRel I w ρ k ck) (hx:VRel I w ρ x cx)
 (hq:aeq E 6 kt k x = some q):Instr.sameNow d ck cx = some q:=by
 cases d<;>simp [a5z] at hd
 ·obtain ⟨a,b,rfl,rfl,rfl⟩:=d48 hu hq
  simp only [VRel] at hk hx;subst hk hx;rfl
 ·obtain ⟨kk,a,b,rfl,rfl,rfl⟩:=d93 hu hq
  simp only [VRel] at hk hx;subst hk hx;simp [Instr.sameNow]
 ·obtain ⟨a,b,rfl,rfl,rfl⟩:=d92 hu hq
  simp only [VRel] at hk hx
  obtain ⟨t,rfl,rfl⟩:=hk
  obtain ⟨t',rfl,rfl⟩:=hx
  simp only [Instr.sameNow,b58]
theorem b6p {k:AV} {ck:Value} {d:TypeDesc} (hd:a5z d = true) {kt:TypeId} (hu:E.und kt = some d) (hk:VRel I w ρ k ck):∀ {ks:List AV} {es:List MapEntry} {i:Nat} {r:Option Nat},
 a1t (aeq E 6 kt) k ks i = some r → VRels I w ρ ks (es.map (·.key)) →
 Instr.findNow d ck es i = some (r.map fun j=>(j,((es[j - i]?).map (·.val)).getD undef)) ∧ ∀ j,r = some j → i ≤ j ∧ j - i < es.length
 | [],es,i,r,hf,hks=>by
  simp only [VRels,List.map_eq_nil_iff] at hks;subst hks
  simp only [a1t,Option.some.injEq] at hf;subst hf
  exact ⟨rfl,by simp⟩
 | x :: ks,es,i,r,hf,hks=>by
  cases es with
  | nil=>simp [VRels] at hks
  | cons e es=>
   simp only [List.map_cons,VRels,List.cons.injEq] at hks
   obtain ⟨c,cs,⟨rfl,rfl⟩,hx,hks⟩:=hks
   simp only [a1t] at hf
   split at hf
   case h_2=>cases hf
   rename_i q hq
   have hnow:=c4y hd hu hk hx hq
   unfold Instr.findNow
   rw [hnow]
   cases q with
   | true=>simp only [cond_true,Option.some.injEq] at hf;subst hf;exact ⟨by simp,by simp⟩
   | false=>
    simp only [cond_false] at hf
    obtain ⟨h1,h2⟩:=b6p hd hu hk (es:=es) hf hks
    dsimp only
    rw [h1]
    refine ⟨?_,fun j hj=>?_⟩
    ·cases r with
     | none=>rfl
     | some j=>
      obtain ⟨h3,h4⟩:=h2 j rfl
      simp only [Option.map_some]
      rw [show j - i = (j - (i + 1)) + 1 by omega]
      simp
    ·obtain ⟨h3,h4⟩:=h2 j hj
     simp;omega
theorem b5q {ck:Value} {fs:Array Field}:∀ (es:List MapEntry) (i:Nat),Instr.findNow (.struct fs) ck es i = if es = [] then some none else none
 | [],i=>by simp [Instr.findNow]
 | e :: es,i=>by simp [Instr.findNow,Instr.sameNow]
theorem b1t (ok:EnvOk E) {kt:TypeId} (hkt:c2c E kt = true) {k:AV} {ck:Value} (hk:VRel I w ρ k ck) {ks:List AV} {es:List MapEntry} {r:Option Nat}
 (hf:a1t (aeq E 6 kt) k ks 0 = some r) (hks:VRels I w ρ ks (es.map (·.key))) :
 (Instr.findKey kt ck es).run E.P w = .ok (r.map fun j=>(j,((es[j]?).map (·.val)).getD undef)) w ∧ ∀ j,r = some j → j < es.length:=by
 unfold c2c at hkt
 split at hkt
 ·rename_i fs hu
  obtain ⟨h1,h2⟩:=b0k ok hk hf hks
  refine ⟨?_,fun j hj=>(h2 j hj).2⟩
  unfold Instr.findKey
  simp only [Sem.run_bind,a08 ok w hu,Result.andThen_ok,b5q]
  by_cases he:es = []
  ·subst he
   simp at hks
   have:ks = []:=by cases ks with|nil=>rfl|cons a b=>simp [VRels] at hks
   subst this
   simp only [a1t,Option.some.injEq] at hf;subst hf
   simp
  ·simp only [he,if_false]
   simpa using h1
 ·rename_i d _ hu
  obtain ⟨h1,h2⟩:=b6p hkt hu hk hf hks
  refine ⟨?_,fun j hj=>(h2 j hj).2⟩
  unfold Instr.findKey
  simp only [Sem.run_bind,a08 ok w hu,Result.andThen_ok,h1]
  simp
 ·cases hkt
theorem a3o (ok:EnvOk E) {t:TypeId} {d:TypeDesc} (hd:a5z d = true) (hu:E.und t = some d) (b:Bool) (m:Nat) (c:Value):(Instr.checkKey b (m + 1) t c).run E.P w = .ok () w:=by
 unfold Instr.checkKey
 simp only [Sem.run_bind,a08 ok w hu,Result.andThen_ok]
 cases d<;>simp [a5z] at hd<;>rfl
def b2y (E:Env):List Field → List AV → Bool
 | [],_=>true
 | f :: fs,cs=>(a2h E f.type ((cs.drop f.offset).take (E.sz f.type))).isSome && b2y E fs cs
def c08 (E:Env) (t:TypeId) (x:AV):Bool:=
 match E.und t,x with
 | some (.struct fs),.agg cs=>b2y E fs.toList cs
 | some (.struct _),_=>false
 | _,_=>true
theorem b55 (ok:EnvOk E) {t:TypeId} (ht:c2c E t = true) {x:AV} {c:Value} (hx:VRel I w ρ x c) (hv:c08 E t x = true) (b:Bool):(Instr.checkKey b 10000 t c).run E.P w = .ok () w:=by
 unfold c2c at ht
 split at ht
 ·rename_i fs hu
  simp only [Bool.and_eq_true] at ht
  unfold c08 at hv
  rw [hu] at hv
  cases x<;>simp at hv
  rename_i cs
  simp only [VRel] at hx
  obtain ⟨cv,rfl,hc⟩:=hx
  obtain ⟨_,_,_,hnames⟩:=ok.eqok t ht.1
  unfold Instr.checkKey
  simp only [Sem.run_bind,a08 ok w hu,Result.andThen_ok]
  have key:∀ (l:List Field),(∀ f ∈ l,f ∈ fs.toList) → b2y E l cs = true →
   (forIn l () (fun f _=>if f.name ≠ "_" then do
    Instr.checkKey b 9999 f.type (← part f.type cv f.offset)
    pure (ForInStep.yield ())
    else pure (ForInStep.yield ()):Field → Unit → Sem (ForInStep Unit))).run E.P w = .ok () w:=by
   intro l
   induction l with
   | nil=>intro _ _;simp
   | cons f l ih=>
    intro hm hp
    simp only [b2y,Bool.and_eq_true] at hp
    obtain ⟨v,hv⟩:=Option.isSome_iff_exists.1 hp.1
    obtain ⟨cc,h1,_⟩:=a95 ok hv hc
    have hf:=hm f (by simp)
    have hpk:=List.all_eq_true.1 ht.2 f hf
    split at hpk
    case h_2=>cases hpk
    rename_i d hd
    have hname:=hnames fs hu f hf
    rw [List.forIn_cons]
    simp only [ne_eq,hname,not_false_eq_true,if_true,Sem.run_bind,h1,Result.andThen_ok,a3o ok hpk hd,Sem.run_pure]
    exact ih (fun g hg=>hm g (by simp [hg])) hp.2
  rw [← Array.forIn_toList]
  exact (congrArg (fun r=>Result.andThen r (fun _ w'=>(pure ():Sem Unit).run E.P w')) (key fs.toList (fun _ h=>h) hv)).trans rfl
 ·rename_i d _ hu
  exact a3o ok ht hu b 9999 c
 ·cases ht
def b2i (h:FHeap):AV → Option (List AV × List AV)
 | .nilmap=>some ([],[])
 | .imap ks vs _ _=>some (ks,vs)
 | .map b=>match h b with
  | some (.map ks vs _ _)=>some (ks,vs)
  | _=>none
 | _=>none
def a30 (E:Env) (h:FHeap) (t:TypeId) (x k:AV) (ok:Bool):Option AV:=
 match E.und t with
 | some (.map kt et)=>bif c2c E kt && c08 E kt k then
  match b2i h x,E.zero et,E.und et with
  | some (ks,vs),some z,some d=>match a1t (aeq E 6 kt) k ks 0 with
   | some (some i)=>match vs[i]? with
    | some v=>some (bif ok then .tuple [v,.bool true] else v)
    | none=>none
   | some none=>bif a1z d then some (bif ok then .tuple [.agg z,.bool false] else .agg z) else
    match z with
    | [v]=>some (bif ok then .tuple [v,.bool false] else v)
    | _=>none
   | none=>none
  | _,_,_=>none
  else none
 | _=>none
theorem d0j (r:HRel E.G I K ρ h w) {x:AV} {ks vs:List AV} {c:Value} (ha:b2i h x = some (ks,vs)) (hx:VRel I w ρ x c) :
 (c = .map none ∧ ks = [] ∧ vs = []) ∨ ∃ b es cl,c = .map (some b) ∧ w.heap[b]? = some (.map es cl) ∧ VRels I w ρ ks (es.toList.map (·.key)) ∧ VRels I w ρ vs (es.toList.map (·.val)):=by
 unfold b2i at ha
 split at ha
 ·cases ha;simp only [VRel] at hx;exact .inl ⟨hx,rfl,rfl⟩
 ·cases ha
  simp only [VRel] at hx
  obtain ⟨b,es,rfl,_,he,h1,h2,_⟩:=hx
  exact .inr ⟨b,es,_,rfl,he,VRels.noRef_any h1,VRels.noRef_any h2⟩
 ·rename_i b
  split at ha
  case h_2=>cases ha
  rename_i ks' vs' bs cl hb
  cases ha
  simp only [VRel] at hx
  obtain ⟨m,hm,rfl⟩:=hx
  obtain ⟨m',hm',_,_,ho⟩:=r.live b _ hb
  obtain rfl:m = m':=z9o (hm.symm.trans hm')
  obtain ⟨es,he,h1,h2,_⟩:=ho
  exact .inr ⟨m.blk,es,cl,rfl,he,h1,h2⟩
 ·cases ha
theorem b75 (ok:EnvOk E) {t:TypeId} {d:TypeDesc} {z:List AV} {zv:Value} (hd:E.und t = some d) (hz:E.zero t = some z) (hzv:(zeroValue t).run E.P w = .ok zv w) :
 (a1z d = true → ∃ a,zv = .agg a) ∧ (a1z d = false → zv.cells = #[zv]):=by
 obtain ⟨_,i,z',hi,hz',_⟩:=ok.zero t z hz
 have:zv = z':=by
  simp [zeroValue,typeInfo,hi,hz'] at hzv
  exact hzv.symm
 subst this
 exact ok.zshape t d i zv hd hi hz'
theorem c6c (ok:EnvOk E) (r:HRel E.G I K ρ h w) {t:TypeId} {x k v:AV} {c ck:Value} {b:Bool} (hv:a30 E h t x k b = some v) (hx:VRel I w ρ x c) (hk:VRel I w ρ k ck) :
 Val E I K ρ h n w (Instr.lookup t c ck b) v .none:=by
 unfold a30 at hv
 split at hv
 case h_2=>cases hv
 rename_i kt et hu
 rw [cond_eq_ite] at hv
 split at hv
 case isFalse=>cases hv
 rename_i hkey
 simp only [Bool.and_eq_true] at hkey
 split at hv
 case h_2=>cases hv
 rename_i ks vs z d hm hz hd
 obtain ⟨zv,hzv,_,hrel⟩:=a7e ok w hz
 have hzr:VRels I w ρ z zv.cells.toList:=VRels.noRef_any (hrel I w)
 have main:∃ es:List MapEntry,((c = .map none ∧ es = []) ∨ ∃ b cl,c = .map (some b) ∧ w.heap[b]? = some (.map es.toArray cl)) ∧ VRels I w ρ ks (es.map (·.key)) ∧ VRels I w ρ vs (es.map (·.val)):=by
  rcases d0j r hm hx with ⟨rfl,rfl,rfl⟩|⟨b,es,cl,rfl,he,h1,h2⟩
  ·exact ⟨[],.inl ⟨rfl,rfl⟩,by simp [VRels],by simp [VRels]⟩
  ·exact ⟨es.toList,.inr ⟨b,cl,rfl,by simpa using he⟩,h1,h2⟩
 obtain ⟨es,hrun,hks,hvs⟩:=main
 cases hf:a1t (aeq E 6 kt) k ks 0 with
 | none=>simp [hf] at hv
 | some ri=>
  obtain ⟨hfk,hlt⟩:=b1t ok hkey.1 hk hf hks
  have hck:=b55 ok hkey.1 hk hkey.2 es.toArray.isEmpty
  simp only [hf] at hv
  cases ri with
  | some i=>
   simp only at hv
   cases hvi:vs[i]? with
   | none=>simp [hvi] at hv
   | some v0=>
    simp only [hvi,Option.some.injEq] at hv
    obtain ⟨cv,hcv,hrv⟩:=VRels.get i hvs hvi
    have hval:((es[i]?).map (·.val)).getD undef = cv:=by
     rw [List.getElem?_map] at hcv
     rw [hcv];rfl
    refine Val.here (c:=if b then .tuple #[cv,.bool true] else cv) r ?_ ?_
    ·rcases hrun with ⟨rfl,rfl⟩|⟨b',cl,rfl,he⟩
     ·simp at hcv
     ·simp only [Instr.lookup,Sem.run_bind,a08 ok w hu,Result.andThen_ok,getObj,Sem.run,he,Sem.run_pure,hck,hfk,Option.map_some,hval]
    ·subst hv
     cases b
     ·exact hrv
     ·simp only [cond_true,if_true,VRel]
      exact ⟨_,rfl,by simp only [VRels];exact ⟨_,_,rfl,hrv,_,_,rfl,by simp [VRel],rfl⟩⟩
  | none=>
   simp only at hv
   have hlook:(Instr.lookup t c ck b).run E.P w = .ok (if b then .tuple #[zv,.bool false] else zv) w:=by
    rcases hrun with ⟨rfl,rfl⟩|⟨b',cl,rfl,he⟩
    ·simp only [Instr.lookup,Sem.run_bind,a08 ok w hu,Result.andThen_ok,Sem.run_pure,hck,hfk,Option.map_none,hzv]
    ·simp only [Instr.lookup,Sem.run_bind,a08 ok w hu,Result.andThen_ok,getObj,Sem.run,he,Sem.run_pure,hck,hfk,Option.map_none,hzv]
   have fin:∀ v0,VRel I w ρ v0 zv → (bif b then AV.tuple [v0,.bool false] else v0) = v → Val E I K ρ h n w (Instr.lookup t c ck b) v .none:=by
    intro v0 h0 hv0
    refine Val.here r hlook ?_
    subst hv0
    cases b
    ·exact h0
    ·simp only [cond_true,if_true,VRel]
     exact ⟨_,rfl,by simp only [VRels];exact ⟨_,_,rfl,h0,_,_,rfl,by simp [VRel],rfl⟩⟩
   rw [cond_eq_ite] at hv
   split at hv
   ·rename_i hag
    obtain ⟨a,rfl⟩:=(b75 ok hd hz hzv).1 hag
    simp only [Option.some.injEq] at hv
    exact fin (.agg z) (by simp only [VRel];exact ⟨a,rfl,hzr⟩) hv
   ·rename_i hag
    split at hv
    case h_2=>cases hv
    rename_i v0 _
    simp only [Option.some.injEq] at hv
    have hc:=(b75 ok hd hz hzv).2 (by simpa using hag)
    rw [hc] at hzr
    simp only [VRels] at hzr
    obtain ⟨c0,cs0,he,h0,_⟩:=hzr
    simp only [List.cons.injEq] at he
    exact fin v0 (by rw [he.1];exact h0) hv
end
end Go.Ax
/- AxMap2: maps that are b76. -/
namespace Go.Ax
section
variable {E:Env} {I K:Nat → Prop} {ρ:PMap} {h:FHeap} {n:Nat} {w:World}
def a80 (E:Env) (h:FHeap) (t:TypeId) (m k:AV):Option (Nat × List AV × List AV × List Nat × Nat × Option Nat):=
 match E.und t,m with
 | some (.map kt _),.map b=>bif c2c E kt && c08 E kt k then
  match h b with
  | some (.map ks vs bs cl)=>match a1t (aeq E 6 kt) k ks 0 with
   | some (some i)=>match ks[i]? with
    | some k0=>bif c6a k0 k then some (b,ks,vs,bs,cl,some i) else none
    | none=>none
   | some none=>some (b,ks,vs,bs,cl,none)
   | none=>none
  | _=>none
  else none
 | _,_=>none
def a1c (E:Env) (h:FHeap) (t:TypeId) (m k v:AV):Option Eff:=
 match a80 E h t m k with
 | some (b,ks,vs,bs,cl,some i)=>some (.set b (.map ks (vs.set i v) bs cl))
 | some (b,ks,vs,bs,cl,none)=>some (.set b (.map (ks ++ [k]) (vs ++ [v]) (bs ++ [cl]) (cl + 1)))
 | none=>none
theorem a4r {ks:List AV} {es:Array MapEntry} (i:Nat) (f:MapEntry → MapEntry) (hf:∀ e,es[i]? = some e → (f e).key = e.key) (hk:VRels I w ρ ks (es.toList.map (·.key))) :
 VRels I w ρ ks ((es.modify i f).toList.map (·.key)):=by
 have:(es.modify i f).toList.map (·.key) = es.toList.map (·.key):=by
  apply List.ext_getElem?
  intro j
  simp only [List.getElem?_map,Array.getElem?_toList,Array.getElem?_modify]
  split
  ·rename_i hj;subst hj
   cases he:es[i]? with
   | none=>simp
   | some e=>simp [hf e he]
  ·rfl
 rw [this];exact hk
theorem a6u {vs:List AV} {v:AV} {c:Value} {es:Array MapEntry} (i:Nat) (f:MapEntry → MapEntry) (hf:∀ e,(f e).val = c) (hv:VRel I w ρ v c) (hk:VRels I w ρ vs (es.toList.map (·.val))) :
 VRels I w ρ (vs.set i v) ((es.modify i f).toList.map (·.val)):=by
 have:(es.modify i f).toList.map (·.val) = (es.toList.map (·.val)).set i c:=by
  apply List.ext_getElem?
  intro j
  simp only [List.getElem?_map,Array.getElem?_toList,Array.getElem?_modify,List.getElem?_set,List.length_map,Array.length_toList]
  split
  ·rename_i hj;subst hj
   split
   ·rename_i hlt;simp [hlt,hf]
   ·rename_i hlt;simp [Array.getElem?_eq_none (Nat.le_of_not_lt hlt)]
  ·rfl
 rw [this];exact VRels.set i hk hv
theorem a8u {es:Array MapEntry} (i:Nat) (f:MapEntry → MapEntry) (hf:∀ e,(f e).born = e.born):(es.modify i f).toList.map (·.born) = es.toList.map (·.born):=by
 apply List.ext_getElem?
 intro j
 simp only [List.getElem?_map,Array.getElem?_toList,Array.getElem?_modify]
 split
 ·rename_i hj;subst hj
  cases es[i]?<;>simp [hf]
 ·rfl
theorem a3d {b:Nat} {es:Array MapEntry} {cl:Nat} (o:Obj) (he:w.heap[b]? = some (.map es cl)):(setObj b o).run E.P w = .ok () { w with heap:=w.heap.setIfInBounds b o }:=by
 simp [setObj,Sem.run,he]
theorem a5u (r:HRel E.G I K ρ h w) {b:Nat} {m:Pl} {o0:AObj} (hb:h b = some o0) (hm:ρ b = some m) {es es':Array MapEntry} {cl cl':Nat} (he:w.heap[m.blk]? = some (.map es cl))
 {ks vs:List AV} {bs:List Nat} (hk:VRels I w ρ ks (es'.toList.map (·.key))) (hv:VRels I w ρ vs (es'.toList.map (·.val))) (hbs:es'.toList.map (·.born) = bs) :
 Stepped E.G I K ρ w I ρ (h.eff n (.set b (.map ks vs bs cl'))) { w with heap:=w.heap.setIfInBounds m.blk (.map es' cl') }:=by
 have hlt:m.blk < w.heap.size:=(Array.getElem?_eq_some_iff.1 he).1
 obtain ⟨m',hm',hnI,_,_⟩:=r.live b _ hb
 obtain rfl:m = m':=z9o (hm.symm.trans hm')
 have hoth:∀ c,c ≠ m.blk → ({ w with heap:=w.heap.setIfInBounds m.blk (.map es' cl') }:World).heap[c]? = w.heap[c]?:=by
  intro c hc
  show (w.heap.setIfInBounds _ _)[c]? = _
  rw [Array.getElem?_setIfInBounds,if_neg (fun h=>hc h.symm)]
 have hIw:∀ c,I c → ({ w with heap:=w.heap.setIfInBounds m.blk (.map es' cl') }:World).heap[c]? = w.heap[c]?:=fun c hc=>hoth c (fun e=>hnI (e ▸ hc))
 refine a1v r hb hm (by simp) hoth rfl rfl rfl ?_
 refine ⟨es',?_,VRels.mono (fun _ h=>h) hIw ks (fun _ _ h=>h) hk,VRels.mono (fun _ h=>h) hIw vs (fun _ _ h=>h) hv,hbs⟩
 show (w.heap.setIfInBounds _ _)[_]? = _
 rw [Array.getElem?_setIfInBounds,if_pos rfl,if_pos hlt]
theorem b0q (ok:EnvOk E) (r:HRel E.G I K ρ h w) {t:TypeId} {m k:AV} {c ck:Value} {b cl:Nat} {ks vs:List AV} {bs:List Nat} {oi:Option Nat}
 (hp:a80 E h t m k = some (b,ks,vs,bs,cl,oi)) (hm:VRel I w ρ m c) (hk:VRel I w ρ k ck) :
 ∃ (pl:Pl) (es:Array MapEntry) (kt et:TypeId),c = .map (some pl.blk) ∧ h b = some (.map ks vs bs cl) ∧ ρ b = some pl ∧ w.heap[pl.blk]? = some (.map es cl) ∧
  VRels I w ρ ks (es.toList.map (·.key)) ∧ VRels I w ρ vs (es.toList.map (·.val)) ∧ es.toList.map (·.born) = bs ∧ (underlying t).run E.P w = .ok (.map kt et) w ∧ E.und t = some (.map kt et) ∧
  (Instr.checkKey false 10000 kt ck).run E.P w = .ok () w ∧
  (Instr.findKey kt ck es.toList).run E.P w = .ok (oi.map fun j=>(j,((es.toList[j]?).map (·.val)).getD undef)) w ∧
  (∀ i,oi = some i → ∃ e,es[i]? = some e ∧ e.key = ck ∧ Instr.sameBits 10000 e.key ck = true):=by
 unfold a80 at hp
 split at hp
 case h_2=>cases hp
 rename_i kt et b' hu
 rw [cond_eq_ite] at hp
 split at hp
 case isFalse=>cases hp
 rename_i hkey
 simp only [Bool.and_eq_true] at hkey
 split at hp
 case h_2=>cases hp
 rename_i ks' vs' bs' cl' hb
 simp only [VRel] at hm
 obtain ⟨pl,hpl,rfl⟩:=hm
 obtain ⟨m',hm',_,_,ho⟩:=r.live b' _ hb
 obtain rfl:pl = m':=z9o (hpl.symm.trans hm')
 obtain ⟨es,he,h1,h2,h3⟩:=ho
 have hck:=b55 (w:=w) ok hkey.1 hk hkey.2 false
 split at hp
 ·rename_i i hf
  split at hp
  case h_2=>cases hp
  rename_i k0 hk0
  rw [cond_eq_ite] at hp
  split at hp
  case isFalse=>cases hp
  rename_i hs
  cases hp
  obtain ⟨hfk,hlt⟩:=b1t ok hkey.1 hk hf h1
  obtain ⟨cv,hcv,hrv⟩:=VRels.get i h1 hk0
  obtain ⟨heq,hsb⟩:=d40 hs hrv hk
  rw [List.getElem?_map] at hcv
  cases hei:es.toList[i]? with
  | none=>rw [hei] at hcv;cases hcv
  | some e=>
   rw [hei] at hcv
   simp only [Option.map_some,Option.some.injEq] at hcv
   refine ⟨pl,es,kt,et,rfl,hb,hpl,he,h1,h2,h3,a08 ok w hu,hu,hck,hfk,?_⟩
   intro i' hi'
   cases hi'
   exact ⟨e,by simpa using hei,by rw [hcv];exact heq,by rw [hcv];exact hsb⟩
 ·rename_i hf
  cases hp
  obtain ⟨hfk,hlt⟩:=b1t ok hkey.1 hk hf h1
  exact ⟨pl,es,kt,et,rfl,hb,hpl,he,h1,h2,h3,a08 ok w hu,hu,hck,hfk,fun i hi=>by cases hi⟩
 ·cases hp
theorem b0s (ok:EnvOk E) (r:HRel E.G I K ρ h w) {t:TypeId} {m k v:AV} {c ck cv:Value} {e:Eff} (hu:a1c E h t m k v = some e) (hm:VRel I w ρ m c) (hk:VRel I w ρ k ck) (hv:VRel I w ρ v cv) :
 e2v E I K ρ h n w (Instr.mapUpdate t c ck cv) e:=by
 unfold a1c at hu
 split at hu
 ·rename_i b ks vs bs cl i hp
  cases hu
  obtain ⟨pl,es,kt,et,rfl,hb,hpl,he,h1,h2,h3,hund,_,hck,hfk,hi⟩:=b0q ok r hp hm hk
  obtain ⟨e,hei,hek,hsb⟩:=hi i rfl
  refine ⟨_,ρ,?_,a5u (es':=es.modify i fun e=>{ e with key:=ck,val:=cv }) r hb hpl he ?_ ?_ ?_,Moves.same _ _ _⟩
  ·have:((es[i]?).map (·.key)).getD ck = e.key:=by simp [hei]
   simp only [Instr.mapUpdate,Sem.run_bind,hund,Result.andThen_ok,getObj,Sem.run,he,hck,hfk,Option.map_some,this,Instr.keyThatStays,hsb,if_true,Sem.run_pure,a3d _ he]
  ·exact a4r i _ (fun e' he'=>by rw [hei] at he';cases he';exact hek.symm) h1
  ·exact a6u i _ (fun _=>rfl) hv h2
  ·exact (a8u (es:=es) i (fun e=>{ e with key:=ck,val:=cv }) (fun _=>rfl)).trans h3
 ·rename_i b ks vs bs cl hp
  cases hu
  obtain ⟨pl,es,kt,et,rfl,hb,hpl,he,h1,h2,h3,hund,_,hck,hfk,_⟩:=b0q ok r hp hm hk
  refine ⟨_,ρ,?_,a5u (es':=es.push { key:=ck,val:=cv,born:=cl }) (cl':=cl + 1) r hb hpl he ?_ ?_ ?_,Moves.same _ _ _⟩
  ·simp only [Instr.mapUpdate,Sem.run_bind,hund,Result.andThen_ok,getObj,Sem.run,he,hck,hfk,Option.map_none,a3d _ he]
  ·simp only [Array.toList_push,List.map_append,List.map_cons,List.map_nil]
   exact VRels.append h1 (by simp only [VRels];exact ⟨_,_,rfl,hk,rfl⟩)
  ·simp only [Array.toList_push,List.map_append,List.map_cons,List.map_nil]
   exact VRels.append h2 (by simp only [VRels];exact ⟨_,_,rfl,hv,rfl⟩)
  ·simp [h3]
 ·cases hu
def a84 (d:TypeDesc) (z:List AV):Option AV:=bif a1z d then some (.agg z) else match z with|[v]=>some v|_=>none
def a4g (E:Env) (h:FHeap) (t:TypeId) (m k:AV):Option (AV × Eff):=
 match a80 E h t m k with
 | some (b,ks,vs,bs,cl,some i)=>match vs[i]?,bs[i]? with
  | some v,some s=>some (.tuple [v,.int .i64 s],.set b (.map ks vs bs cl))
  | _,_=>none
 | some (b,ks,vs,bs,cl,none)=>match E.und t with
  | some (.map _ et)=>match E.zero et,E.und et with
   | some z,some d=>match a84 d z with
    | some v=>some (.tuple [v,.int .i64 cl],.set b (.map (ks ++ [k]) (vs ++ [v]) (bs ++ [cl]) (cl + 1)))
    | none=>none
   | _,_=>none
  | _=>none
 | none=>none
theorem d17 (ok:EnvOk E) {t:TypeId} {d:TypeDesc} {z:List AV} {v:AV} (hd:E.und t = some d) (hz:E.zero t = some z)
 (hv:a84 d z = some v):∃ zv,(∀ w',(zeroValue t).run E.P w' = .ok zv w') ∧ ∀ I w' ρ,VRel I w' ρ v zv:=by
 obtain ⟨_,i,z',hi,hz',_,hrel⟩:=ok.zero t z hz
 have hrun:∀ w',(zeroValue t).run E.P w' = .ok z' w':=fun w'=>by simp [zeroValue,typeInfo,hi,hz']
 obtain ⟨s1,s2⟩:=ok.zshape t d i z' hd hi hz'
 refine ⟨z',hrun,fun I w' ρ=>?_⟩
 have hzr:VRels I w' ρ z z'.cells.toList:=VRels.noRef_any (hrel I w')
 unfold a84 at hv
 rw [cond_eq_ite] at hv
 split at hv
 ·rename_i hag
  obtain ⟨a,rfl⟩:=s1 hag
  simp only [Option.some.injEq] at hv;subst hv
  simp only [VRel];exact ⟨a,rfl,hzr⟩
 ·rename_i hag
  split at hv
  case h_2=>cases hv
  cases hv
  rw [s2 (by simpa using hag)] at hzr
  simp only [VRels] at hzr
  obtain ⟨c0,cs0,he,h0,_⟩:=hzr
  simp only [List.cons.injEq] at he
  rw [he.1];exact h0
theorem c1a (ok:EnvOk E) (r:HRel E.G I K ρ h w) {t:TypeId} {m k v:AV} {c ck:Value} {e:Eff} (hu:a4g E h t m k = some (v,e)) (hm:VRel I w ρ m c) (hk:VRel I w ρ k ck) :
 Val E I K ρ h n w (Instr.mapEntry t c ck) v e:=by
 unfold a4g at hu
 split at hu
 ·rename_i b ks vs bs cl i hp
  split at hu
  case h_2=>cases hu
  rename_i v0 s hv0 hs
  cases hu
  obtain ⟨pl,es,kt,et,rfl,hb,hpl,he,h1,h2,h3,hund,_,hck,hfk,hi⟩:=b0q ok r hp hm hk
  obtain ⟨e,hei,hek,hsb⟩:=hi i rfl
  obtain ⟨cv,hcv,hrv⟩:=VRels.get i h2 hv0
  have hst:(es.toList.map (·.born))[i]? = some s:=by rw [h3];exact hs
  rw [List.getElem?_map] at hcv hst
  have hei':es.toList[i]? = some e:=by simpa using hei
  rw [hei'] at hcv hst
  simp only [Option.map_some,Option.some.injEq] at hcv hst
  have step:=a5u (n:=n) (es':=es.modify i fun e=>{ e with key:=ck }) (cl':=cl) r hb hpl he (a4r i _ (fun e' he'=>by rw [hei] at he';cases he';exact hek.symm) h1)
   (show VRels I w ρ vs _ by
    have:(es.modify i fun e=>{ e with key:=ck }).toList.map (·.val) = es.toList.map (·.val):=by
     apply List.ext_getElem?
     intro j
     simp only [List.getElem?_map,Array.getElem?_toList,Array.getElem?_modify]
     split
     ·rename_i hj;subst hj
      cases es[i]?<;>simp
     ·rfl
    rw [this];exact h2) ((a8u (es:=es) i (fun e=>{ e with key:=ck }) (fun _=>rfl)).trans h3)
  refine ⟨.tuple #[cv,goInt s],_,ρ,?_,step,?_,Moves.same _ _ _⟩
  ·have h5:((es[i]?).map (·.key)).getD ck = e.key:=by simp [hei]
   have h6:((es[i]?).map (fun x=>(x.born:Int))).getD 0 = s:=by simp [hei,hst]
   have h7:((es.toList[i]?).map (·.val)).getD undef = cv:=by simp [hei,hcv]
   simp only [Instr.mapEntry,Sem.run_bind,hund,Result.andThen_ok,getObj,Sem.run,he,hck,hfk,Option.map_some,h5,h6,h7,Instr.keyThatStays,hsb,if_true,Sem.run_pure,a3d _ he]
  ·refine step.vrel ?_
   simp only [VRel]
   exact ⟨_,rfl,by simp only [VRels];exact ⟨_,_,rfl,hrv,_,_,rfl,by simp [VRel,goInt],rfl⟩⟩
 ·rename_i b ks vs bs cl hp
  split at hu
  case h_2=>cases hu
  rename_i kt' et hund'
  split at hu
  case h_2=>cases hu
  rename_i z d hz hd
  split at hu
  case h_2=>cases hu
  rename_i v0 hv0
  cases hu
  obtain ⟨pl,es,kt,et',rfl,hb,hpl,he,h1,h2,h3,hund,hund2,hck,hfk,_⟩:=b0q ok r hp hm hk
  rw [hund'] at hund2
  simp only [Option.some.injEq,TypeDesc.map.injEq] at hund2
  obtain ⟨rfl,rfl⟩:=hund2
  obtain ⟨zv,hzv,hzr⟩:=d17 ok hd hz hv0
  have step:=a5u (n:=n) (es':=es.push { key:=ck,val:=zv,born:=cl }) (cl':=cl + 1) (ks:=ks ++ [k]) (vs:=vs ++ [v0]) (bs:=bs ++ [cl]) r hb hpl he
   (by simp only [Array.toList_push,List.map_append,List.map_cons,List.map_nil];exact VRels.append h1 (by simp only [VRels];exact ⟨_,_,rfl,hk,rfl⟩))
   (by simp only [Array.toList_push,List.map_append,List.map_cons,List.map_nil];exact VRels.append h2 (by simp only [VRels];exact ⟨_,_,rfl,hzr _ _ _,rfl⟩)) (by simp [h3])
  refine ⟨.tuple #[zv,goInt cl],_,ρ,?_,step,?_,Moves.same _ _ _⟩
  ·simp only [Instr.mapEntry,Sem.run_bind,hund,Result.andThen_ok,getObj,Sem.run,he,hck,hfk,Option.map_none,hzv,a3d _ he,Sem.run_pure]
  ·simp only [VRel]
   exact ⟨_,rfl,by simp only [VRels];exact ⟨_,_,rfl,hzr _ _ _,_,_,rfl,by simp [VRel,goInt],rfl⟩⟩
 ·cases hu
def a1w (h:FHeap) (m s v:AV):Option Eff:=
 match m,s with
 | .map b,.int _ i=>match h b with
  | some (.map ks vs bs cl)=>match bs.findIdx? (fun (x:Nat)=>(x:Int) == i) with
   | some j=>some (.set b (.map ks (vs.set j v) bs cl))
   | none=>none
  | _=>none
 | _,_=>none
theorem b5s (r:HRel E.G I K ρ h w) {t:TypeId} {m s v:AV} {c cs cv:Value} {e:Eff} (hu:a1w h m s v = some e) (hm:VRel I w ρ m c) (hs:VRel I w ρ s cs) (hv:VRel I w ρ v cv) :
 e2v E I K ρ h n w (Instr.entryStore t c cs cv) e:=by
 unfold a1w at hu
 split at hu
 case h_2=>cases hu
 rename_i b kk i
 split at hu
 case h_2=>cases hu
 rename_i ks vs bs cl hb
 split at hu
 case h_2=>cases hu
 rename_i j hj
 cases hu
 simp only [VRel] at hm hs
 obtain ⟨pl,hpl,rfl⟩:=hm
 subst hs
 obtain ⟨m',hm',_,_,ho⟩:=r.live b _ hb
 obtain rfl:pl = m':=z9o (hpl.symm.trans hm')
 obtain ⟨es,he,h1,h2,h3⟩:=ho
 have hfi:es.findIdx? (fun e=>(e.born:Int) == i) = some j:=by
  rw [← h3,List.findIdx?_map] at hj
  rw [show es.findIdx? (fun e=>(e.born:Int) == i) = es.toList.findIdx? (fun e=>(e.born:Int) == i) by cases es;simp]
  exact hj
 refine ⟨_,ρ,?_,a5u (es':=es.modify j fun e=>{ e with val:=cv }) r hb hpl he ?_ ?_ ?_,Moves.same _ _ _⟩
 ·simp only [Instr.entryStore,Sem.run_bind,getObj,Sem.run,he,Result.andThen_ok,asInt,asIntOf,Sem.run_pure,hfi,a3d _ he]
 ·exact a4r j _ (fun _ _=>rfl) h1
 ·exact a6u j _ (fun _=>rfl) hv h2
 ·exact (a8u (es:=es) j (fun e=>{ e with val:=cv }) (fun _=>rfl)).trans h3
end
end Go.Ax
/- AxSet: sets of numbers: lookup, update, delete, ranging. -/
namespace Go.Ax
section
variable {E:Env} {I K:Nat → Prop} {ρ:PMap} {h:FHeap} {n:Nat} {w:World}
def oor {α:Type} (a b:Option α):Option α:=match a with
 | some x=>some x
 | none=>b
theorem a9p {α:Type} {a b:Option α} {x:α} (h:oor a b = some x):a = some x ∨ b = some x:=by
 cases a with
 | none=>exact .inr h
 | some y=>exact .inl h
def e1s:Option TypeDesc → Bool
 | some (.int .i64)=>true
 | _=>false
def c8r:Option TypeDesc → Bool
 | some .bool=>true
 | _=>false
def c3p:Option (List AV) → Bool
 | some [.bool b]=>!b
 | _=>false
def a88 (E:Env) (t:TypeId):Bool:=match E.und t with
 | some (.map kt et)=>e1s (E.und kt) && (c8r (E.und et) && c3p (E.zero et))
 | _=>false
theorem b38 {t:TypeId} (hu:a88 E t = true):∃ kt et,E.und t = some (.map kt et) ∧ E.und kt = some (.int .i64) ∧ E.und et = some .bool ∧ E.zero et = some [.bool false]:=by
 unfold a88 at hu
 split at hu
 case h_2=>cases hu
 rename_i kt et he
 simp only [Bool.and_eq_true] at hu
 obtain ⟨h1,h2,h3⟩:=hu
 refine ⟨kt,et,he,?_,?_,?_⟩
 ·unfold e1s at h1;split at h1
  ·assumption
  ·cases h1
 ·unfold c8r at h2;split at h2
  ·assumption
  ·cases h2
 ·unfold c3p at h3;split at h3
  ·rename_i b hb;cases b
   ·exact hb
   ·cases h3
  ·cases h3
section
variable {ks:List Int} {es:Array MapEntry} {cl:Nat}
theorem USet.key (hs:USet ks es cl) {e:MapEntry} (he:e ∈ es.toList):∃ y ∈ ks,e.key = .int .i64 y:=by
 have h1:=hs.1.mem_iff.1 (List.mem_map_of_mem (f:=(·.key)) he)
 obtain ⟨y,hy,h2⟩:=List.mem_map.1 h1
 exact ⟨y,hy,h2.symm⟩
theorem USet.has (hs:USet ks es cl) {x:Int} (hx:x ∈ ks):∃ e ∈ es.toList,e.key = .int .i64 x:=by
 have h1:=hs.1.mem_iff.2 (List.mem_map_of_mem (f:=Value.int .i64) hx)
 obtain ⟨e,he,h2⟩:=List.mem_map.1 h1
 exact ⟨e,he,h2⟩
theorem b89 {a b:Int} (h:Value.int .i64 a = Value.int .i64 b):a = b:=by cases h;rfl
theorem USet.keys_nodup (hs:USet ks es cl):(es.toList.map (·.key)).Nodup:=by
 rw [hs.1.nodup_iff]
 exact List.Pairwise.map _ (fun a b hab e=>hab (b89 e)) hs.2.2.1
theorem b4u (x:Int):∀ (es:List MapEntry) (i:Nat),(∀ e ∈ es,∃ y,e.key = .int .i64 y) →
 (∃ j e,es[j]? = some e ∧ e.key = .int .i64 x ∧ Instr.findNow (.int .i64) (.int .i64 x) es i = some (some (i + j,e.val))) ∨
  ((∀ e ∈ es,e.key ≠ .int .i64 x) ∧ Instr.findNow (.int .i64) (.int .i64 x) es i = some none)
 | [],i,_=>.inr ⟨by simp,rfl⟩
 | e :: es,i,h=>by
  obtain ⟨y,hy⟩:=h e (by simp)
  by_cases hxy:x = y
  ·subst hxy
   exact .inl ⟨0,e,rfl,hy,by simp [Instr.findNow,Instr.sameNow,hy]⟩
  ·have e1:Instr.findNow (.int .i64) (.int .i64 x) (e :: es) i = Instr.findNow (.int .i64) (.int .i64 x) es (i + 1):=by
    have hb:(x == y) = false:=by simpa using hxy
    simp [Instr.findNow,Instr.sameNow,hy,hb]
   rcases b4u x es (i + 1) (fun e he=>h e (by simp [he])) with ⟨j,e',h1,h2,h3⟩|⟨h1,h2⟩
   ·exact .inl ⟨j + 1,e',by simpa using h1,h2,by rw [e1,h3,show i + 1 + j = i + (j + 1) by omega]⟩
   ·refine .inr ⟨?_,by rw [e1,h2]⟩
    intro e' he'
    rcases List.mem_cons.1 he' with rfl|he'
    ·rw [hy];exact fun e=>hxy (b89 e).symm
    ·exact h1 e' he'
theorem b7b (ok:EnvOk E) {kt:TypeId} (hk:E.und kt = some (.int .i64)) (hs:USet ks es cl) (x:Int) :
 (∃ j e,es[j]? = some e ∧ e.key = .int .i64 x ∧ x ∈ ks ∧ (Instr.findKey kt (.int .i64 x) es.toList).run E.P w = .ok (some (j,.bool true)) w) ∨
  (x ∉ ks ∧ (Instr.findKey kt (.int .i64 x) es.toList).run E.P w = .ok none w):=by
 rcases b4u x es.toList 0 (fun e he=>by obtain ⟨y,_,h⟩:=hs.key he;exact ⟨y,h⟩) with ⟨j,e,h1,h2,h3⟩|⟨h1,h2⟩
 ·refine .inl ⟨j,e,by simpa using h1,h2,?_,?_⟩
  ·obtain ⟨y,hy,h4⟩:=hs.key (List.mem_of_getElem? h1)
   rw [h2] at h4;rw [b89 h4];exact hy
  ·unfold Instr.findKey
   simp only [Sem.run_bind,a08 ok w hk,Result.andThen_ok,h3,Nat.zero_add,hs.2.1 e (List.mem_of_getElem? h1),Sem.run_pure]
 ·refine .inr ⟨fun hx=>?_,?_⟩
  ·obtain ⟨e,he,h3⟩:=hs.has hx
   exact h1 e he h3
  ·unfold Instr.findKey
   simp only [Sem.run_bind,a08 ok w hk,Result.andThen_ok,h2,Sem.run_pure]
end
def b39 (h:FHeap):AV → Option (List Int)
 | .iset ks=>some ks
 | .map b=>match h b with
  | some (.uset ks)=>some ks
  | _=>none
 | _=>none
theorem c6t (r:HRel E.G I K ρ h w) {x:AV} {ks:List Int} {c:Value} (hu:b39 h x = some ks) (hx:VRel I w ρ x c) :
 ∃ b es cl,c = .map (some b) ∧ w.heap[b]? = some (.map es cl) ∧ USet ks es cl:=by
 unfold b39 at hu
 split at hu
 ·cases hu
  simp only [VRel] at hx
  obtain ⟨b,es,cl,rfl,_,he,hs⟩:=hx
  exact ⟨b,es,cl,rfl,he,hs⟩
 ·rename_i b
  split at hu
  case h_2=>cases hu
  rename_i ks' hb
  cases hu
  simp only [VRel] at hx
  obtain ⟨m,hm,rfl⟩:=hx
  obtain ⟨m',hm',_,_,es,cl,he,hs⟩:=r.live b _ hb
  obtain rfl:m = m':=z9o (hm.symm.trans hm')
  exact ⟨m.blk,es,cl,rfl,he,hs⟩
 ·cases hu
/-! ### lookup -/
def b0t (E:Env) (h:FHeap) (t:TypeId) (x k:AV) (ok:Bool):Option AV:=match b39 h x,k with
 | some ks,.int .i64 i=>bif a88 E t then some (bif ok then .tuple [.bool (ks.contains i),.bool (ks.contains i)] else .bool (ks.contains i)) else none
 | _,_=>none
theorem d0k (ok:EnvOk E) (r:HRel E.G I K ρ h w) {t:TypeId} {x k v:AV} {c ck:Value} {b:Bool} (hv:b0t E h t x k b = some v) (hx:VRel I w ρ x c) (hk:VRel I w ρ k ck) :
 Val E I K ρ h n w (Instr.lookup t c ck b) v .none:=by
 unfold b0t at hv
 split at hv
 case h_2=>cases hv
 rename_i ks i hu
 rw [cond_eq_ite] at hv
 split at hv
 case isFalse=>cases hv
 rename_i ht
 obtain ⟨kt,et,h1,h2,h3,h4⟩:=b38 ht
 obtain ⟨bb,es,cl,rfl,he,hs⟩:=c6t r hu hx
 simp only [VRel] at hk;subst hk
 have hck:=a3o (w:=w) ok (d:=.int .i64) rfl h2 es.isEmpty 9999 (.int .i64 i)
 have fin:∀ q:Bool,(Instr.lookup t (.map (some bb)) (.int .i64 i) b).run E.P w = .ok (if b then .tuple #[.bool q,.bool q] else .bool q) w → ks.contains i = q → Val E I K ρ h n w (Instr.lookup t (.map (some bb)) (.int .i64 i) b) v .none:=by
  intro q hrun hq
  rw [hq] at hv
  refine Val.here r hrun ?_
  cases b
  ·simp only [cond_false,Option.some.injEq] at hv;subst hv;simp [VRel]
  ·simp only [cond_true,Option.some.injEq] at hv;subst hv
   simp only [if_true,VRel]
   exact ⟨_,rfl,by simp only [VRels];exact ⟨_,_,rfl,by simp [VRel],_,_,rfl,by simp [VRel],rfl⟩⟩
 rcases b7b (w:=w) ok h2 hs i with ⟨j,e,g1,g2,g3,g4⟩|⟨g1,g2⟩
 ·refine fin true ?_ (by simpa using g3)
  simp only [Instr.lookup,Sem.run_bind,a08 ok w h1,Result.andThen_ok,getObj,Sem.run,he,Sem.run_pure,hck,g4]
 ·refine fin false ?_ (by simpa using g1)
  obtain ⟨zv,hzv,_,hrel⟩:=a7e ok w h4
  have hzr:VRels I w ρ [.bool false] zv.cells.toList:=VRels.noRef_any (hrel I w)
  rw [(b75 ok h3 h4 hzv).2 rfl] at hzr
  simp only [VRels] at hzr
  obtain ⟨c0,cs0,he0,h0,_⟩:=hzr
  simp only [List.cons.injEq] at he0
  rw [← he0.1] at h0
  simp only [VRel] at h0
  subst h0
  simp only [Instr.lookup,Sem.run_bind,a08 ok w h1,Result.andThen_ok,getObj,Sem.run,he,Sem.run_pure,hck,g2,hzv]
/-! ### update -/
def c2e (x:Int):List Int → List Int
 | []=>[x]
 | y :: l=>bif decide (x < y) then x :: y :: l else y :: c2e x l
theorem c0a (x:Int):∀ l:List Int,(c2e x l).Perm (x :: l)
 | []=>List.Perm.refl _
 | y :: l=>by
  simp only [c2e,cond_eq_ite]
  split
  ·exact List.Perm.refl _
  ·exact ((c0a x l).cons y).trans (List.Perm.swap ..)
theorem b1g {α:Type} (g:MapEntry → α) {es:Array MapEntry} (i:Nat) (f:MapEntry → MapEntry) (hf:∀ e,es[i]? = some e → g (f e) = g e):(es.modify i f).toList.map g = es.toList.map g:=by
 apply List.ext_getElem?
 intro j
 simp only [List.getElem?_map,Array.getElem?_toList,Array.getElem?_modify]
 split
 ·rename_i hj;subst hj
  cases he:es[i]? with
  | none=>simp
  | some e=>simp [hf e he]
 ·rfl
theorem a6v {ks:List Int} {es:Array MapEntry} {cl:Nat}:USet ks es cl ↔ (es.toList.map (·.key)).Perm (ks.map (Value.int .i64)) ∧ (∀ v ∈ es.toList.map (·.val),v = .bool true) ∧ ks.Nodup ∧ (es.toList.map (·.born)).Nodup ∧ ∀ b ∈ es.toList.map (·.born),b < cl:=by
 unfold USet
 simp only [List.mem_map,forall_exists_index,and_imp,forall_apply_eq_imp_iff₂]
theorem a6c (r:HRel E.G I K ρ h w) {b:Nat} {m:Pl} {o0:AObj} (hb:h b = some o0) (hm:ρ b = some m) {es es':Array MapEntry} {cl cl':Nat} (he:w.heap[m.blk]? = some (.map es cl)) {ks:List Int} (hs:USet ks es' cl') :
 Stepped E.G I K ρ w I ρ (h.eff n (.set b (.uset ks))) { w with heap:=w.heap.setIfInBounds m.blk (.map es' cl') }:=by
 have hlt:m.blk < w.heap.size:=(Array.getElem?_eq_some_iff.1 he).1
 have hoth:∀ c,c ≠ m.blk → ({ w with heap:=w.heap.setIfInBounds m.blk (.map es' cl') }:World).heap[c]? = w.heap[c]?:=by
  intro c hc
  show (w.heap.setIfInBounds _ _)[c]? = _
  rw [Array.getElem?_setIfInBounds,if_neg (fun h=>hc h.symm)]
 refine a1v r hb hm (by simp) hoth rfl rfl rfl ⟨es',cl',?_,hs⟩
 show (w.heap.setIfInBounds _ _)[_]? = _
 rw [Array.getElem?_setIfInBounds,if_pos rfl,if_pos hlt]
def b0p (E:Env) (h:FHeap) (t:TypeId) (m k v:AV):Option Eff:=match m,k,v with
 | .map b,.int .i64 i,.bool q=>match h b with
  | some (.uset ks)=>bif a88 E t && q then some (.set b (.uset (bif ks.contains i then ks else c2e i ks))) else none
  | _=>none
 | _,_,_=>none
theorem c4e (ok:EnvOk E) (r:HRel E.G I K ρ h w) {t:TypeId} {m k v:AV} {c ck cv:Value} {e:Eff} (hu:b0p E h t m k v = some e) (hm:VRel I w ρ m c) (hk:VRel I w ρ k ck) (hv:VRel I w ρ v cv) :
 e2v E I K ρ h n w (Instr.mapUpdate t c ck cv) e:=by
 unfold b0p at hu
 split at hu
 case h_2=>cases hu
 rename_i b i q
 split at hu
 case h_2=>cases hu
 rename_i ks hb
 rw [cond_eq_ite] at hu
 split at hu
 case isFalse=>cases hu
 rename_i ht
 simp only [Bool.and_eq_true] at ht
 obtain ⟨ht,rfl⟩:=ht
 cases hu
 obtain ⟨kt,et,h1,h2,h3,h4⟩:=b38 ht
 simp only [VRel] at hm hk hv
 subst hk hv
 obtain ⟨pl,hpl,rfl⟩:=hm
 obtain ⟨m',hm',_,_,es,cl,he,hs⟩:=r.live b _ hb
 obtain rfl:pl = m':=z9o (hpl.symm.trans hm')
 have hck:=a3o (w:=w) ok (d:=.int .i64) rfl h2 false 9999 (.int .i64 i)
 rcases b7b (w:=w) ok h2 hs i with ⟨j,e,g1,g2,g3,g4⟩|⟨g1,g2⟩
 ·have hc:ks.contains i = true:=by simpa using g3
  rw [hc,cond_true]
  obtain ⟨s1,s2,s3,s4,s5⟩:=a6v.1 hs
  have k1:(es.modify j fun e=>{ e with key:=.int .i64 i,val:=.bool true }).toList.map (·.key) = es.toList.map (·.key):=b1g _ j _ (fun e' he'=>by rw [g1] at he';cases he';exact g2.symm)
  have k2:(es.modify j fun e=>{ e with key:=.int .i64 i,val:=.bool true }).toList.map (·.val) = es.toList.map (·.val):=b1g _ j _ (fun e' he'=>(hs.2.1 e' (by simpa using Array.mem_of_getElem? he')).symm)
  have k3:(es.modify j fun e=>{ e with key:=.int .i64 i,val:=.bool true }).toList.map (·.born) = es.toList.map (·.born):=b1g _ j _ (fun e' he'=>rfl)
  refine ⟨_,ρ,?_,a6c (es':=es.modify j fun e=>{ e with key:=.int .i64 i,val:=.bool true }) r hb hpl he (a6v.2 ⟨by rw [k1];exact s1,by rw [k2];exact s2,s3,by rw [k3];exact s4,by rw [k3];exact s5⟩),Moves.same _ _ _⟩
  have h5:((es[j]?).map (·.key)).getD (.int .i64 i) = .int .i64 i:=by simp [g1,g2]
  have h6:Instr.sameBits 10000 (.int .i64 i) (.int .i64 i) = true:=by simp [Instr.sameBits]
  simp only [Instr.mapUpdate,Sem.run_bind,a08 ok w h1,Result.andThen_ok,getObj,Sem.run,he,hck,g4,h5,Instr.keyThatStays,h6,if_true,Sem.run_pure,a3d _ he]
 ·have hc:ks.contains i = false:=by simpa using g1
  rw [hc,cond_false]
  obtain ⟨s1,s2,s3,s4,s5⟩:=a6v.1 hs
  have hp:=c0a i ks
  refine ⟨_,ρ,?_,a6c (es':=es.push { key:=.int .i64 i,val:=.bool true,born:=cl }) (cl':=cl + 1) r hb hpl he (a6v.2 ⟨?_,?_,?_,?_,?_⟩),Moves.same _ _ _⟩
  ·simp only [Instr.mapUpdate,Sem.run_bind,a08 ok w h1,Result.andThen_ok,getObj,Sem.run,he,hck,g2,a3d _ he]
  ·rw [Array.toList_push,List.map_append]
   refine (List.perm_append_comm.trans ?_).trans (hp.map _).symm
   simpa using s1
  ·intro v hv
   rw [Array.toList_push,List.map_append] at hv
   rcases List.mem_append.1 hv with h|h
   ·exact s2 v h
   ·simpa using h
  ·rw [hp.nodup_iff,List.nodup_cons];exact ⟨g1,s3⟩
  ·rw [Array.toList_push,List.map_append,List.nodup_append]
   refine ⟨s4,by simp,?_⟩
   intro a ha b' hb'
   have:=s5 a ha
   simp only [List.map_cons,List.map_nil,List.mem_singleton] at hb'
   omega
  ·intro a ha
   rw [Array.toList_push,List.map_append] at ha
   rcases List.mem_append.1 ha with h|h
   ·have:=s5 a h;omega
   ·simp only [List.map_cons,List.map_nil,List.mem_singleton] at h;omega
/-! ### delete -/
theorem b0m {α:Type}:∀ {l:List α} {j:Nat} {e:α},l[j]? = some e → (e :: l.eraseIdx j).Perm l
 | [],j,e,h=>by simp at h
 | a :: l,0,e,h=>by simp at h;subst h;exact List.Perm.refl _
 | a :: l,j + 1,e,h=>by
  have ih:=b0m (l:=l) (j:=j) (e:=e) (by simpa using h)
  simp only [List.eraseIdx_cons_succ]
  exact (List.Perm.swap ..).trans (ih.cons a)
def b5h (E:Env) (h:FHeap) (t:TypeId) (m k:AV):Option Eff:=match m,k with
 | .map b,.int .i64 i=>match h b with
  | some (.uset ks)=>bif a88 E t then some (.set b (.uset (ks.filter fun y=>!decide (y = i)))) else none
  | _=>none
 | _,_=>none
theorem d49 (ok:EnvOk E) (r:HRel E.G I K ρ h w) {t kt0:TypeId} {m k:AV} {c ck:Value} {e:Eff} (ty:TypeId) (hu:b5h E h t m k = some e) (hm:VRel I w ρ m c) (hk:VRel I w ρ k ck) :
 Val E I K ρ h n w (Builtin.delete_ #[t,kt0] ty #[c,ck]) (.tuple []) e:=by
 unfold b5h at hu
 split at hu
 case h_2=>cases hu
 rename_i b i
 split at hu
 case h_2=>cases hu
 rename_i ks hb
 rw [cond_eq_ite] at hu
 split at hu
 case isFalse=>cases hu
 rename_i ht
 cases hu
 obtain ⟨kt,et,h1,h2,h3,h4⟩:=b38 ht
 simp only [VRel] at hm hk
 subst hk
 obtain ⟨pl,hpl,rfl⟩:=hm
 obtain ⟨m',hm',_,_,es,cl,he,hs⟩:=r.live b _ hb
 obtain rfl:pl = m':=z9o (hpl.symm.trans hm')
 have hck:=a3o (w:=w) ok (d:=.int .i64) rfl h2 es.isEmpty 9999 (.int .i64 i)
 have hunit:∀ (w':World) (ρ':PMap),VRel I w' ρ' (.tuple []) (.tuple #[]):=fun w' ρ'=>by simp only [VRel];exact ⟨#[],rfl,by simp [VRels]⟩
 obtain ⟨s1,s2,s3,s4,s5⟩:=a6v.1 hs
 rcases b7b (w:=w) ok h2 hs i with ⟨j,e,g1,g2,g3,g4⟩|⟨g1,g2⟩
 ·have hj:j < es.toList.length:=by simpa using (Array.getElem?_eq_some_iff.1 g1).1
  have hel:(es.eraseIdxIfInBounds j).toList = es.toList.eraseIdx j:=by
   unfold Array.eraseIdxIfInBounds
   rw [dif_pos (by simpa using hj)];simp
  have hpe:(e :: es.toList.eraseIdx j).Perm es.toList:=b0m (by simpa using g1)
  have hpk:(i :: ks.filter fun y=>!decide (y = i)).Perm ks:=by
   refine (List.perm_ext_iff_of_nodup ?_ s3).2 fun z=>?_
   ·rw [List.nodup_cons];exact ⟨by simp,s3.filter _⟩
   ·simp only [List.mem_cons,List.mem_filter,Bool.not_eq_true',decide_eq_false_iff_not]
    constructor
    ·rintro (rfl|h)
     ·exact g3
     ·exact h.1
    ·intro hz;by_cases hzi:z = i
     ·exact .inl hzi
     ·exact .inr ⟨hz,hzi⟩
  refine ⟨.tuple #[],_,ρ,?_,a6c (es':=es.eraseIdxIfInBounds j) (cl':=cl) r hb hpl he (a6v.2 ⟨?_,?_,?_,?_,?_⟩),hunit _ _,Moves.same _ _ _⟩
  ·have hget:(getObj pl.blk).run E.P w = .ok (.map es cl) w:=by simp [getObj,Sem.run,he]
   have hset:=a3d (E:=E) (.map (es.eraseIdxIfInBounds j) cl) he
   simp [Builtin.delete_,a08 ok w h1,hget,hck,g4,hset]
  ·rw [hel]
   have h5:=(hpe.map (·.key)).trans (s1.trans (hpk.map (Value.int .i64)).symm)
   simp only [List.map_cons,g2] at h5
   exact h5.cons_inv
  ·intro v hv
   rw [hel] at hv
   exact s2 v ((hpe.map (·.val)).subset (by simp only [List.map_cons];exact List.mem_cons_of_mem _ hv))
  ·exact s3.filter _
  ·rw [hel]
   have:=(hpe.map (·.born)).nodup_iff.2 s4
   simp only [List.map_cons,List.nodup_cons] at this
   exact this.2
  ·intro v hv
   rw [hel] at hv
   exact s5 v ((hpe.map (·.born)).subset (by simp only [List.map_cons];exact List.mem_cons_of_mem _ hv))
 ·have hf:(ks.filter fun y=>!decide (y = i)) = ks:=List.filter_eq_self.2 fun y hy=>by simp;rintro rfl;exact g1 hy
  rw [hf]
  refine ⟨.tuple #[],_,ρ,?_,a6c (es':=es) (cl':=cl) r hb hpl he hs,hunit _ _,Moves.same _ _ _⟩
  have hget:(getObj pl.blk).run E.P w = .ok (.map es cl) w:=by simp [getObj,Sem.run,he]
  have hset:=a3d (E:=E) (.map es cl) he
  simp [Builtin.delete_,a08 ok w h1,hget,hck,g2,hset]
end
end Go.Ax
/- AxSet2: ranging over a set of numbers. -/
namespace Go.Ax
section
variable {E:Env} {I K:Nat → Prop} {ρ:PMap} {h:FHeap} {n:Nat} {w:World}
def b6i:Option TypeDesc → Bool
 | some (.map _ _)=>true
 | _=>false
theorem b6h {d:Option TypeDesc} (h:b6i d = true):∃ kt et,d = some (.map kt et):=by
 unfold b6i at h;split at h
 ·exact ⟨_,_,rfl⟩
 ·cases h
def b1z (E:Env) (n:Nat) (t:TypeId) (x:AV):Option (AV × Eff):=match x with
 | .iset ks=>bif b6i (E.und t) then some (.ptr n 0 0,.new (.miter ks [] none)) else none
 | .nilmap=>bif b6i (E.und t) then some (.ptr n 0 0,.new (.miter [] [] none)) else none
 | _=>none
theorem c6b (ok:EnvOk E) (r:HRel E.G I K ρ h w) (hn:h n = none) (hρ:ρ n = none) {t:TypeId} {x v:AV} {c:Value} {e:Eff} (ha:b1z E n t x = some (v,e)) (hx:VRel I w ρ x c) :
 Val E I K ρ h n w (Instr.range t c) v e:=by
 unfold b1z at ha
 split at ha
 ·rename_i ks
  rw [cond_eq_ite] at ha
  split at ha
  case isFalse=>cases ha
  rename_i hu
  cases ha
  obtain ⟨kt,et,hu⟩:=b6h hu
  simp only [VRel] at hx
  obtain ⟨b,es,cl,rfl,hI,he,hs⟩:=hx
  have hlt:b < w.heap.size:=(Array.getElem?_eq_some_iff.1 he).1
  refine ⟨.pointer (some ⟨w.heap.size,0,none⟩),{ w with heap:=w.heap.push (.mapIter (some b) cl #[] cl) },ρ.set n ⟨w.heap.size,0,0,0⟩,?_,?_,?_,Moves.set _ _ _ rfl⟩
  ·simp [Instr.range,a08 ok w hu,getObj,Sem.run,he,newObj]
  ·refine a2c (ob:=.mapIter (some b) cl #[] cl) r hn hρ rfl rfl rfl rfl rfl ?_
   refine ⟨rfl,.inr ⟨b,es,cl,#[],hI,?_,hs,by simp,[],by simp,by simp,by simp⟩⟩
   show (w.heap.push _)[b]? = _
   rw [Array.getElem?_push,if_neg (by omega)];exact he
  ·simp only [VRel];exact ⟨_,by simp [PMap.set];rfl,by simp⟩
 ·rw [cond_eq_ite] at ha
  split at ha
  case isFalse=>cases ha
  rename_i hu
  cases ha
  obtain ⟨kt,et,hu⟩:=b6h hu
  simp only [VRel] at hx;subst hx
  refine ⟨.pointer (some ⟨w.heap.size,0,none⟩),{ w with heap:=w.heap.push (.mapIter none 0 #[] 0) },ρ.set n ⟨w.heap.size,0,0,0⟩,?_,?_,?_,Moves.set _ _ _ rfl⟩
  ·simp [Instr.range,a08 ok w hu,newObj,Sem.run]
  ·exact a2c (ob:=.mapIter none 0 #[] 0) r hn hρ rfl rfl rfl rfl rfl ⟨rfl,.inl ⟨rfl,rfl,by simp⟩⟩
  ·simp only [VRel];exact ⟨_,by simp [PMap.set];rfl,by simp⟩
 ·cases ha
def a7w (h:FHeap) (it:AV):Option AV:=match it with
 | .ptr b 0 0=>match h b with
  | some (.miter _ vis _)=>match vis.getLast? with
   | some i=>some (.tuple [.int .i64 i,.bool true])
   | none=>none
  | _=>none
 | _=>none
theorem c6f (r:HRel E.G I K ρ h w) {it v:AV} {c:Value} (ha:a7w h it = some v) (hx:VRel I w ρ it c):Val E I K ρ h n w (Instr.entry c) v .none:=by
 unfold a7w at ha
 split at ha
 case h_2=>cases ha
 rename_i b
 split at ha
 case h_2=>cases ha
 rename_i ks vis arm hb
 split at ha
 case h_2=>cases ha
 rename_i i hi
 cases ha
 simp only [VRel] at hx
 obtain ⟨m,hm,rfl⟩:=hx
 obtain ⟨m',hm',_,_,h0,ho⟩:=r.live b _ hb
 obtain rfl:m = m':=z9o (hm.symm.trans hm')
 rcases ho with ⟨_,h2,_⟩|⟨c,es,cl,seen,hI,he,hs,hit,es',g1,g2,g3⟩
 ·rw [h2] at hi;cases hi
 ·have hl:(es'.map (·.key)).getLast? = some (.int .i64 i):=by rw [g3,List.getLast?_map,hi];rfl
  rw [List.getLast?_map] at hl
  cases hle:es'.getLast? with
  | none=>rw [hle] at hl;cases hl
  | some e=>
   rw [hle] at hl
   simp only [Option.map_some,Option.some.injEq] at hl
   have hem:=g1 e (List.mem_of_getLast? hle)
   have hback:seen.back? = some e.born:=by
    rw [← Array.getLast?_toList,← g2,List.getLast?_map,hle];rfl
   have hfind:es.find? (fun x=>x.born == e.born) = some e:=by
    rw [← Array.find?_toList]
    have hnd:=hs.2.2.2.1
    have:∀ l:List MapEntry,(l.map (·.born)).Nodup → e ∈ l → l.find? (fun x=>x.born == e.born) = some e:=by
     intro l
     induction l with
     | nil=>intro _ h;cases h
     | cons a l ih=>
      intro hn hm
      simp only [List.map_cons,List.nodup_cons] at hn
      rcases List.mem_cons.1 hm with rfl|hm
      ·simp
      ·have hne:(a.born == e.born) = false:=by
        rw [beq_eq_false_iff_ne];intro h;exact hn.1 (h ▸ List.mem_map_of_mem (f:=(·.born)) hm)
       rw [List.find?_cons,hne];exact ih hn.2 hm
    exact this _ hnd hem
   refine Val.here (c:=.tuple #[.int .i64 i,.bool true]) r ?_ ?_
   ·simp [Instr.entry,h0,getObj,Sem.run,hit,he,hback,hfind,hl,hs.2.1 e hem]
   ·simp only [VRel]
    exact ⟨_,rfl,by simp only [VRels];exact ⟨_,_,rfl,by simp [VRel],_,_,rfl,by simp [VRel],rfl⟩⟩
theorem c2x (k:Nat) (hk:0 < k):∃ i d,i < k ∧ (choose (.mapNext k)).run E.P w = .ok i { w with drawn:=d }:=by
 simp only [choose,Sem.run]
 by_cases h:(Question.mapNext k).forced = true
 ·rw [if_pos h];exact ⟨0,w.drawn,hk,rfl⟩
 ·rw [if_neg h];exact ⟨_,w.drawn + 1,Nat.mod_lt _ hk,rfl⟩
theorem c4d {es:List MapEntry} {α:Type} (f:MapEntry → α) (hn:(es.map f).Nodup) {a b:MapEntry} (ha:a ∈ es) (hb:b ∈ es) (h:f a = f b):a = b:=by
 induction es with
 | nil=>cases ha
 | cons x l ih=>
  simp only [List.map_cons,List.nodup_cons] at hn
  rcases List.mem_cons.1 ha with rfl|ha
  ·rcases List.mem_cons.1 hb with rfl|hb
   ·rfl
   ·exact absurd (h ▸ List.mem_map_of_mem (f:=f) hb) hn.1
  ·rcases List.mem_cons.1 hb with rfl|hb
   ·exact absurd (show f b ∈ l.map f from h ▸ List.mem_map_of_mem (f:=f) (by assumption)) hn.1
   ·exact ih hn.2 ha hb
theorem d25 (r:HRel E.G I K ρ h w) {b:Nat} {m:Pl} {ks vis:List Int} {arm:Option (Option Int)} (hb:h b = some (.miter ks vis arm)) (hm:ρ b = some m) (ty:TypeId) :
 (∃ i,i ∈ ks ∧ i ∉ vis ∧ ∃ w',(Instr.next (.pointer (some ⟨m.blk,0,none⟩)) false ty).run E.P w = .ok (.tuple #[.bool true,.int .i64 i,.bool true]) w' ∧ Stepped E.G I K ρ w I ρ (h.eff n (.set b (.miter ks (vis ++ [i]) none))) w') ∨
  ((∀ i ∈ ks,i ∈ vis) ∧ ∃ w',(Instr.next (.pointer (some ⟨m.blk,0,none⟩)) false ty).run E.P w = .ok (.tuple #[.bool false]) w' ∧ Stepped E.G I K ρ w I ρ (h.eff n (.set b (.miter ks vis none))) w'):=by
 obtain ⟨m',hm',hnI,_,h0,ho⟩:=r.live b _ hb
 obtain rfl:m = m':=z9o (hm.symm.trans hm')
 rcases ho with ⟨h1,h2,h3⟩|⟨c,es,cl,seen,hI,he,hs,hit,es',g1,g2,g3⟩
 ·subst h1 h2
  exact .inr ⟨by simp,w,by simp [Instr.next,getObj,Sem.run,h3],a1v r hb hm rfl (fun _ _=>rfl) rfl rfl rfl ⟨h0,.inl ⟨rfl,rfl,h3⟩⟩⟩
 ·have hget1:(getObj m.blk).run E.P w = .ok (.mapIter (some c) cl seen cl) w:=by simp [getObj,Sem.run,hit]
  have hget2:(getObj c).run E.P w = .ok (.map es cl) w:=by simp [getObj,Sem.run,he]
  have hborn:∀ e ∈ es,e.born < cl:=fun e he=>hs.2.2.2.2 e (by simpa using he)
  have hcond:(!seen.isEmpty && !es.isEmpty && es.all (fun e=>decide (e.born ≥ cl))) = false:=by
   rw [Bool.and_eq_false_iff]
   by_cases hem:es.isEmpty = true
   ·left;simp [hem]
   ·right
    have hne:es ≠ #[]:=by simpa using hem
    rw [← Bool.not_eq_true,Array.all_eq_true_iff_forall_mem]
    intro hall
    obtain ⟨e,hee⟩:=Array.exists_mem_of_ne_empty es hne
    have:=hall e hee
    have:=hborn e hee
    simp only [decide_eq_true_eq] at *;omega
  obtain ⟨left,hleft⟩:∃ left,left = es.filter (fun e=>!seen.contains e.born):=⟨_,rfl⟩
  have hmem:∀ e,e ∈ left ↔ e ∈ es ∧ e.born ∉ seen:=by
   intro e;rw [hleft,Array.mem_filter];simp
  have hold:left.filter (fun e=>decide (e.born < cl)) = left:=by
   rw [Array.filter_eq_self]
   intro e hm;simpa using hborn e ((hmem e).1 hm).1
  have hnew:left.filter (fun e=>decide (e.born ≥ cl)) = #[]:=by
   rw [Array.filter_eq_empty_iff]
   intro e hm;have:=hborn e ((hmem e).1 hm).1;simp;omega
  have hseen:∀ e ∈ es,∀ i,e.key = .int .i64 i → (e.born ∈ seen ↔ i ∈ vis):=by
   intro e hee i hi
   have hnd1:=hs.2.2.2.1
   have hnd2:=hs.keys_nodup
   have hel:e ∈ es.toList:=by simpa using hee
   constructor
   ·intro h
    have h1:e.born ∈ es'.map (·.born):=by rw [g2];simpa using h
    obtain ⟨e',he',h2⟩:=List.mem_map.1 h1
    have:=c4d (·.born) hnd1 (g1 e' he') hel h2
    subst this
    have h3:=List.mem_map_of_mem (f:=(·.key)) he'
    rw [g3,hi] at h3
    obtain ⟨j,hj,h4⟩:=List.mem_map.1 h3
    rw [b89 h4] at hj;exact hj
   ·intro h
    have h1:Value.int .i64 i ∈ es'.map (·.key):=by rw [g3];exact List.mem_map_of_mem h
    obtain ⟨e',he',h2⟩:=List.mem_map.1 h1
    have:=c4d (·.key) hnd2 (g1 e' he') hel (h2.trans hi.symm)
    subst this
    have h3:=List.mem_map_of_mem (f:=(·.born)) he'
    rw [g2] at h3
    simpa using h3
  by_cases hl:left.isEmpty = true
  ·refine .inr ⟨fun i hi=>?_,w,?_,a1v r hb hm rfl (fun _ _=>rfl) rfl rfl rfl ⟨h0,.inr ⟨c,es,cl,seen,hI,he,hs,hit,es',g1,g2,g3⟩⟩⟩
   ·obtain ⟨e,hee,hk⟩:=hs.has hi
    have hee:e ∈ es:=by simpa using hee
    refine (hseen e hee i hk).1 (Decidable.byContradiction fun hn=>?_)
    have:=(hmem e).2 ⟨hee,hn⟩
    have h0:left = #[]:=by simpa using hl
    rw [h0] at this;simp at this
   ·have h0:left = #[]:=by simpa using hl
    simp only [Instr.next,Sem.run_bind,hget1,Result.andThen_ok,hget2,hcond,← hleft,hold,hnew]
    simp [h0,choose,Sem.run,Question.forced]
  ·have hpos:0 < left.size:=by
    rcases Nat.eq_zero_or_pos left.size with h|h
    ·exact absurd (by simpa using Array.eq_empty_of_size_eq_zero h) hl
    ·exact h
   obtain ⟨ix,d,hix,hch⟩:=c2x (E:=E) (w:=w) left.size hpos
   obtain ⟨e,hee⟩:∃ e,left[ix]? = some e:=⟨_,Array.getElem?_eq_getElem hix⟩
   obtain ⟨hees,hnb⟩:=(hmem e).1 (Array.mem_of_getElem? hee)
   obtain ⟨i,hi,hk⟩:=hs.key (e:=e) (by simpa using hees)
   have hval:=hs.2.1 e (by simpa using hees)
   have hblk:m.blk < w.heap.size:=(Array.getElem?_eq_some_iff.1 hit).1
   have hcb:c ≠ m.blk:=fun e=>hnI (e ▸ hI)
   refine .inl ⟨i,hi,fun hv=>hnb ((hseen e hees i hk).2 hv),{ w with heap:=w.heap.setIfInBounds m.blk (.mapIter (some c) cl (seen.push e.born) cl),drawn:=d },?_,?_⟩
   ·have hset:(setObj m.blk (.mapIter (some c) cl (seen.push e.born) cl)).run E.P { w with drawn:=d } = .ok () { w with heap:=w.heap.setIfInBounds m.blk (.mapIter (some c) cl (seen.push e.born) cl),drawn:=d }:=by
     simp [setObj,Sem.run,hit]
    have hl':left.isEmpty = false:=by simpa using hl
    simp only [Instr.next,Sem.run_bind,hget1,Result.andThen_ok,hget2,hcond,← hleft,hold,hnew,hl',Bool.false_eq_true,if_false,Array.empty_append,Array.append_empty,Array.size_map,hch,Array.getElem?_map,hee,Option.map_some,hset,Sem.run_pure,hk,hval]
   ·refine a1v r hb hm (by simp) ?_ rfl rfl rfl ⟨h0,.inr ⟨c,es,cl,seen.push e.born,hI,?_,hs,?_,es' ++ [e],?_,?_,?_⟩⟩
    ·intro x hx
     show (w.heap.setIfInBounds _ _)[x]? = _
     rw [Array.getElem?_setIfInBounds,if_neg (fun h=>hx h.symm)]
    ·show (w.heap.setIfInBounds _ _)[c]? = _
     rw [Array.getElem?_setIfInBounds,if_neg (fun h=>hcb h.symm)];exact he
    ·show (w.heap.setIfInBounds _ _)[_]? = _
     rw [Array.getElem?_setIfInBounds,if_pos rfl,if_pos hblk]
    ·intro x hx
     rcases List.mem_append.1 hx with h|h
     ·exact g1 x h
     ·simp only [List.mem_singleton] at h;subst h;simpa using hees
    ·rw [List.map_append,g2,Array.toList_push];rfl
    ·rw [List.map_append,g3,List.map_append];simp [hk]
end
end Go.Ax
/- AxStr: ranging over a string. -/
namespace Go.Ax
section
variable {E:Env} {I K:Nat → Prop} {ρ:PMap} {h:FHeap} {n:Nat} {w:World}
def b2h (E:Env) (n:Nat) (t:TypeId) (x:AV):Option (AV × Eff):=
 match E.und t,x with
 | some .string,.str s=>some (.ptr n 0 0,.new (.siter s 0))
 | _,_=>none
theorem d0c (ok:EnvOk E) (r:HRel E.G I K ρ h w) (hn:h n = none) (hρ:ρ n = none) {t:TypeId} {x v:AV} {c:Value} {e:Eff} (ha:b2h E n t x = some (v,e)) (hx:VRel I w ρ x c) :
 Val E I K ρ h n w (Instr.range t c) v e:=by
 unfold b2h at ha
 split at ha
 case h_2=>cases ha
 rename_i s hu
 cases ha
 simp only [VRel] at hx
 obtain ⟨tb,rfl,ht⟩:=hx
 refine ⟨.pointer (some ⟨w.heap.size,0,none⟩),{ w with heap:=w.heap.push (.stringIter tb 0) },ρ.set n ⟨w.heap.size,0,0,0⟩,?_,?_,?_,Moves.set _ _ _ rfl⟩
 ·simp [Instr.range,a08 ok w hu]
 ·refine a2c (ob:=.stringIter tb 0) r hn hρ rfl rfl rfl rfl rfl ?_
  exact ⟨rfl,tb,by simp,ht⟩
 ·simp only [VRel];exact ⟨_,by simp [PMap.set];rfl,by simp⟩
def c18 (h:FHeap) (it:AV) (isString:Bool):Option (AV × Eff):=
 match it with
 | .ptr b 0 0=>bif isString then match h b with
  | some (.siter s pos)=>bif Nat.blt pos s.length then
   some (.tuple [.bool true,.int .i64 pos,.int .i32 (Utf8.decode ⟨s.toArray⟩ pos).1],.set b (.siter s (pos + (Utf8.decode ⟨s.toArray⟩ pos).2)))
   else some (.tuple [.bool false],.none)
  | _=>none
  else none
 | _=>none
theorem d44 (r:HRel E.G I K ρ h w) {it v:AV} {b:Bool} {c:Value} {e:Eff} (ty:TypeId) (ha:c18 h it b = some (v,e)) (hx:VRel I w ρ it c) :
 Val E I K ρ h n w (Instr.next c b ty) v e:=by
 unfold c18 at ha
 split at ha
 case h_2=>cases ha
 rename_i bb
 rw [cond_eq_ite] at ha
 split at ha
 case isFalse=>cases ha
 rename_i hs
 subst hs
 split at ha
 case h_2=>cases ha
 rename_i s pos hb
 simp only [VRel] at hx
 obtain ⟨m,hm,rfl⟩:=hx
 obtain ⟨m',hm',hnI,_,h0,tb,he,ht⟩:=r.live bb _ hb
 obtain rfl:m = m':=z9o (hm.symm.trans hm')
 have htb:tb = ⟨s.toArray⟩:=by cases tb;simp only [ByteArray.mk.injEq] at ht ⊢;apply Array.ext';simpa using ht
 have hsz:tb.size = s.length:=by rw [htb];simp [ByteArray.size]
 have hget:(getObj m.blk).run E.P w = .ok (.stringIter tb pos) w:=by simp [getObj,Sem.run,he]
 rw [cond_eq_ite] at ha
 split at ha
 ·rename_i hlt
  simp only [Nat.blt_eq] at hlt
  cases ha
  have hblk:m.blk < w.heap.size:=(Array.getElem?_eq_some_iff.1 he).1
  refine ⟨.tuple #[.bool true,goInt pos,.int .i32 (Utf8.decode tb pos).1],{ w with heap:=w.heap.setIfInBounds m.blk (.stringIter tb (pos + (Utf8.decode tb pos).2)) },ρ,?_,?_,?_,Moves.same _ _ _⟩
  ·have hset:(setObj m.blk (.stringIter tb (pos + (Utf8.decode tb pos).2))).run E.P w = .ok () { w with heap:=w.heap.setIfInBounds m.blk (.stringIter tb (pos + (Utf8.decode tb pos).2)) }:=by
    simp [setObj,Sem.run,he]
   simp only [Instr.next,h0,Nat.zero_mul,Nat.add_zero,Sem.run_bind,hget,Result.andThen_ok]
   simp [hsz,hlt,hset]
  ·refine a1v r hb hm (by simp) ?_ rfl rfl rfl ?_
   ·intro c hc
    show (w.heap.setIfInBounds _ _)[c]? = _
    rw [Array.getElem?_setIfInBounds,if_neg (fun h=>hc h.symm)]
   ·refine ⟨h0,tb,?_,ht⟩
    show (w.heap.setIfInBounds _ _)[_]? = _
    rw [Array.getElem?_setIfInBounds,if_pos rfl,if_pos hblk,htb]
  ·simp only [VRel]
   exact ⟨_,rfl,by simp only [VRels];exact ⟨_,_,rfl,by simp [VRel],_,_,rfl,by simp [VRel,goInt],_,_,rfl,by simp [VRel,htb],rfl⟩⟩
 ·rename_i hlt
  cases ha
  have hlt:¬ pos < s.length:=by simpa [Nat.blt_eq] using hlt
  refine Val.here (c:=.tuple #[.bool false]) r ?_ ?_
  ·simp only [Instr.next,h0,Nat.zero_mul,Nat.add_zero,Sem.run_bind,hget,Result.andThen_ok]
   simp [hsz,hlt]
  ·simp only [VRel];exact ⟨_,rfl,by simp only [VRels];exact ⟨_,_,rfl,by simp [VRel],rfl⟩⟩
end
end Go.Ax
/- AxAppZ: append of so many zero elements to nil (slices.Grow). -/
namespace Go.Ax
section
variable {E:Env} {I K:Nat → Prop} {ρ:PMap} {h:FHeap} {n:Nat} {w:World}
def a3h (E:Env) (n:Nat) (st xt:TypeId) (s x:AV):Option (AV × Eff):=match s,x with
 | .nilslice,.int _ l=>match E.und st,E.und xt with
  | some (.slice elem),some dx=>bif a39 dx && decide (0 ≤ l) then match E.zero elem with
   | some z=>bif Nat.blt 0 (E.sz elem) then (match l.toNat with
    | 0=>some (.nilslice,.none)
    | m + 1=>bif a2s E elem (m + 1) then some (.slice n 0 (m + 1) none,.new (.row (E.sz elem) (List.replicate (m + 1) z))) else none) else none
   | none=>none
   else none
  | _,_=>none
 | _,_=>none
theorem c37 {st xt:TypeId} {s x:AV} {r:AV × Eff} (h:a3h E n st xt s x = some r) (n':Nat) (hp:FHeap):a4i E hp n' st xt s x = none:=by
 unfold a3h at h
 split at h
 case h_2=>cases h
 split at h
 case h_2=>cases h
 rename_i elem dx hu hxt
 rw [cond_eq_ite] at h
 split at h
 case isFalse=>cases h
 rename_i hc
 simp only [Bool.and_eq_true] at hc
 unfold a4i
 simp only [hu,hxt,hc.1,Bool.true_or,cond_true]
theorem c36 (ok:EnvOk E) (r:HRel E.G I K ρ h w) (hn:h n = none) (hρ:ρ n = none) {st xt:TypeId} {s x v:AV} {e:Eff} {cs cx:Value} (ty:TypeId)
 (ha:a3h E n st xt s x = some (v,e)) (hs:VRel I w ρ s cs) (hx:VRel I w ρ x cx):Val E I K ρ h n w (Builtin.append_ #[st,xt] ty #[cs,cx]) v e:=by
 unfold a3h at ha
 split at ha
 case h_2=>cases ha
 rename_i k l
 split at ha
 case h_2=>cases ha
 rename_i elem dx hu hxt
 rw [cond_eq_ite] at ha
 split at ha
 case isFalse=>cases ha
 rename_i hc
 simp only [Bool.and_eq_true,decide_eq_true_eq] at hc
 obtain ⟨hint,hl0⟩:=hc
 split at ha
 case h_2=>cases ha
 rename_i z hz
 rw [cond_eq_ite] at ha
 split at ha
 case isFalse=>cases ha
 rename_i hsz
 have hsz:0 < E.sz elem:=by simpa [Nat.blt_eq] using hsz
 obtain ⟨⟨de,hde⟩,i',z',hi',hz',hzl',hzr'⟩:=ok.zero elem z hz
 have hzero:∀ w',(zeroValue elem).run E.P w' = .ok z' w':=by intro w';simp [zeroValue,typeInfo,hi',hz']
 have hzlen:z'.cells.toList.length = E.sz elem:=by rw [← hzl',VRels.length (hzr' (fun _=>False) w)]
 obtain ⟨i,hi,_,hib⟩:=b2q ok w hde
 have hinfo:∀ w',(typeInfo elem).run E.P w' = .ok i w':=by
  intro w'
  have:=hi
  simp [typeInfo,hi'] at this ⊢
  exact this
 obtain ⟨ki,rfl⟩:∃ ki,dx = .int ki:=by cases dx<;>simp [a39] at hint;exact ⟨_,rfl⟩
 simp only [VRel] at hs hx
 subst hs;subst hx
 have hun:∀ w',(underlying xt).run E.P w' = .ok (.int ki) w':=fun w'=>a08 ok w' hxt
 have huz:∀ w',(underlying st).run E.P w' = .ok (.slice elem) w':=fun w'=>a08 ok w' hu
 have hsize:∀ w',(sizeOf elem).run E.P w' = .ok (E.sz elem) w':=fun w'=>a31 ok w' hde
 obtain ⟨m0,rfl⟩:∃ m0:Nat,l = m0:=⟨l.toNat,by omega⟩
 rw [Int.toNat_natCast] at ha
 have hint:∀ (q:Nat) w',(asInt (.int k (q:Int))).run E.P w' = .ok (q:Int) w':=fun q w'=>rfl
 cases m0 with
 | zero=>
  cases ha
  refine Val.here (c:=.slice none 0 0) r ?_ (by simp [VRel])
  have hw0:IntKind.i64.wrap ((0:Nat):Int) = 0:=by rfl
  unfold Builtin.append_
  simp only [List.getElem?_toArray,List.getElem?_cons_zero,List.getElem?_cons_succ,Sem.run_bind,huz,Result.andThen_ok,hsize,hun,Sem.run_pure,if_true,hint,hw0]
  simp [hinfo]
 | succ m=>
  dsimp only at ha
  rw [cond_eq_ite] at ha
  split at ha
  case isFalse=>cases ha
  rename_i hroom
  cases ha
  have hroom':=hroom
  simp only [a2s,Bool.and_eq_true,decide_eq_true_eq] at hroom
  have hwr:IntKind.i64.wrap ((m + 1:Nat):Int) = ((m + 1:Nat):Int):=b0x (by omega) (by omega)
  have hcap:=a8h (b0b:=m + 1) (old:=0) (by omega)
  have h48:¬ (Builtin.nextslicecap (m + 1) 0 * i.bytes > 2 ^ 48):=by
   rw [hib]
   have:Builtin.nextslicecap (m + 1) 0 * E.bytes elem ≤ (2 * (m + 1) + 192) * E.bytes elem:=Nat.mul_le_mul_right _ hcap
   rw [Nat.mul_comm (2 * (m + 1) + 192)] at this
   omega
  have hmul:(m + 1) * E.bytes elem ≤ 281474976710656:=by
   have:E.bytes elem * (m + 1) ≤ E.bytes elem * (2 * (m + 1) + 192):=Nat.mul_le_mul_left _ (by omega)
   rw [Nat.mul_comm];omega
  have h48':¬ (((m + 1:Nat):Int) * (i.bytes:Int) > 2 ^ 48):=by
   rw [hib]
   have:((m + 1:Nat):Int) * (E.bytes elem:Int) = (((m + 1) * E.bytes elem:Nat):Int):=by simp
   rw [this]
   omega
  have hneg:¬ (((m + 1:Nat):Int) < 0):=by omega
  have hmax:¬ (((m + 1:Nat):Int) > IntKind.i64.max):=by
   simp only [IntKind.max,IntKind.signed,IntKind.bits];simp;omega
  have hle:¬ (m + 1 ≤ 0):=by omega
  have hms:¬ ((m + 1) * E.sz elem = 0):=Nat.mul_ne_zero (by omega) (by omega)
  generalize hcap2:m + 1 + (w.tape w.drawn (.appendCap (m + 1) 0 elem)) % (2 ^ 63 - (m + 1)) = newCap
  have hold:∀ w',(Builtin.firstCells (E.sz elem) 0 (.slice none 0 0)).run E.P w' = .ok #[] w':=fun w'=>rfl
  have hrun:(Builtin.append_ #[st,xt] ty #[.slice none 0 0,.int k ((m + 1:Nat):Int)]).run E.P w =
   .ok (.slice (some ⟨w.heap.size,0,none⟩) (m + 1) newCap) { w with drawn:=w.drawn + 1,heap:=w.heap.push (.cells (Builtin.zeroCells z'.cells (m + 1) ++ Builtin.zeroCells z'.cells (newCap - (m + 1))) elem) }:=by
   unfold Builtin.append_
   simp only [List.getElem?_toArray,List.getElem?_cons_zero,List.getElem?_cons_succ,Sem.run_bind,huz,Result.andThen_ok,hsize,hun,Sem.run_pure,if_true,hint,hwr,hneg,if_false,hinfo,h48']
   have htn:((m + 1:Nat):Int).toNat = m + 1:=rfl
   simp only [htn,Nat.zero_add,hle,if_false,Sem.run_bind,hinfo,Result.andThen_ok,hmax,false_and,h48,run_choose,run_askRoom,Question.forced,Question.cut,hold,Bool.not_true,Bool.false_eq_true,hms,hzero,a3w,Sem.run_pure]
   rw [hcap2]
   simp
  have hcapl:m + 1 ≤ newCap:=by omega
  have hzs:∀ q:Nat,(Builtin.zeroCells z'.cells q).size = q * E.sz elem:=by
   intro q
   rw [← Array.length_toList,a4x]
   induction q with
   | zero=>simp
   | succ q ih=>rw [List.replicate_succ,List.flatten_cons,List.length_append,ih,hzlen,Nat.succ_mul,Nat.add_comm]
  generalize hcells:Builtin.zeroCells z'.cells (m + 1) ++ Builtin.zeroCells z'.cells (newCap - (m + 1)) = cells at hrun
  have hcsize:cells.size = newCap * E.sz elem:=by
   subst hcells
   rw [Array.size_append,hzs,hzs,← Nat.add_mul]
   congr 1;omega
  have hwm:∀ c,I c → ({ w with drawn:=w.drawn + 1,heap:=w.heap.push (.cells cells elem) }:World).heap[c]? = w.heap[c]?:=by
   intro c hc
   have:=r.imm c hc
   show (w.heap.push _)[c]? = _
   rw [Array.getElem?_push,if_neg (by omega)]
  have hnewb:({ w with drawn:=w.drawn + 1,heap:=w.heap.push (.cells cells elem) }:World).heap[w.heap.size]? = some (.cells cells elem (0,0)):=by
   show (w.heap.push _)[_]? = _
   simp
  have hset:=PMap.set_old (m:=⟨w.heap.size,0,E.sz elem,cells.size⟩) hρ
  have hxk:∀ x ∈ List.replicate (m + 1) z,x.length = E.sz elem:=fun x hx=>by rw [List.eq_of_mem_replicate hx];exact hzl'
  have ho:ORel E.G I { w with drawn:=w.drawn + 1,heap:=w.heap.push (.cells cells elem) } (ρ.set n ⟨w.heap.size,0,E.sz elem,cells.size⟩) ⟨w.heap.size,0,E.sz elem,cells.size⟩ (.row (E.sz elem) (List.replicate (m + 1) z)):=by
   refine ⟨rfl,hsz,⟨cells,elem,hnewb,rfl,?_⟩,?_⟩
   ·show 0 + (List.replicate (m + 1) z).length * E.sz elem ≤ cells.size
    rw [List.length_replicate,hcsize,Nat.zero_add]
    exact Nat.mul_le_mul_right _ hcapl
   ·rw [VRows.iff]
    refine ⟨hxk,?_⟩
    refine VAt.of_cells (cs:=(Builtin.zeroCells z'.cells (m + 1)).toList) (CellsAt.of_heap hnewb (fun j v hj=>?_)) ?_
    ·subst hcells
     have hj':=(List.getElem?_eq_some_iff.1 hj).1
     simp only [Array.length_toList] at hj'
     rw [Nat.zero_add,Array.getElem?_append_left hj',← Array.getElem?_toList]
     exact hj
    ·rw [a4x]
     exact VRels.flatten_replicate (VRels.noRef_any (hzr' I _)) _
  refine ⟨_,_,ρ.set n ⟨w.heap.size,0,E.sz elem,cells.size⟩,hrun,?_,?_,Moves.set _ _ _ rfl⟩
  ·exact a2c (ob:=.cells cells elem) r hn hρ rfl rfl rfl rfl rfl ho
  ·simp only [VRel]
   refine ⟨_,newCap,rfl,hcapl,(fun q hq=>by cases hq),.inr ⟨_,by simp [PMap.set];rfl,by simp,?_⟩⟩
   show 0 + (0 + newCap) * E.sz elem ≤ cells.size
   rw [hcsize,Nat.zero_add,Nat.zero_add]
   exact Nat.le_refl _
end
end Go.Ax
/- AxAop: one operation that calls no function of the program, on abstract values; that the model does just that. -/
namespace Go.Ax
set_option maxHeartbeats 200000000
section
variable {E:Env} {I K:Nat → Prop} {ρ:PMap} {h:FHeap} {n:Nat} {w:World}
def b5r (t:Bool) (a b:AV):AV:=
 match a,b with
 | .bool x,.bool y=>.bool (bif t then x else y)
 | a,b=>bif t then a else b
theorem d42 {t:Bool} {a b:AV} {ca cb:Value} (ha:VRel I w ρ a ca) (hb:VRel I w ρ b cb):VRel I w ρ (b5r t a b) (if t then ca else cb):=by
 unfold b5r
 split
 ·simp only [VRel] at ha hb;subst ha hb
  cases t<;>simp [VRel]
 ·cases t<;>simpa
def a6m:List (List AV) → Option (List UInt8)
 | []=>some []
 | [.int .u8 n] :: r=>match a6m r with|some l=>some (UInt8.ofNat n.toNat :: l)|none=>none
 | _ :: _=>none
def a67 (E:Env) (h:FHeap) (src dst:TypeId) (x:AV):Option AV:=
 match E.und src,E.und dst,x with
 | some (.slice _),some .string,.str _=>none
 | some (.slice e),some .string,x=>match E.und e with
  | some (.int .u8)=>match a2j h 1 x with
   | some rows=>match a6m rows with
    | some l=>some (.str l)
    | none=>none
   | none=>none
  | _=>none
 | _,_,x=>d4c E src dst x
theorem b72:∀ {rows:List (List AV)} {l:List UInt8} {cv:List Value} (acc:ByteArray),a6m rows = some l → VRels I w ρ rows.flatten cv →
 ∃ s:ByteArray,(∀ msg:String,(forIn cv acc (fun c s=>match c with
  | .int .u8 n=>pure (ForInStep.yield (s.push (UInt8.ofNat n.toNat)))
  | _=>do
   stuck msg
   pure (ForInStep.yield s):Value → ByteArray → Sem (ForInStep ByteArray))).run E.P w = .ok s w) ∧ s.data.toList = acc.data.toList ++ l
 | [],l,cv,acc,ha,hv=>by
  simp only [a6m,Option.some.injEq] at ha;subst ha
  simp only [List.flatten_nil,VRels] at hv;subst hv
  exact ⟨acc,fun _=>by simp,by simp⟩
 | r :: rows,l,cv,acc,ha,hv=>by
  unfold a6m at ha
  split at ha
  ·rename_i h;cases h
  ·rename_i n r' he
   cases he
   split at ha
   case h_2=>cases ha
   rename_i l' hl
   cases ha
   simp only [List.flatten_cons,List.cons_append,List.nil_append,VRels] at hv
   obtain ⟨c,cs,rfl,hc,hcs⟩:=hv
   simp only [VRel] at hc;subst hc
   obtain ⟨s,h1,h2⟩:=b72 (acc.push (UInt8.ofNat n.toNat)) hl hcs
   refine ⟨s,fun msg=>?_,?_⟩
   ·rw [List.forIn_cons]
    simp only [Sem.run_bind,Sem.run_pure,Result.andThen_ok]
    exact h1 msg
   ·rw [h2];simp
  ·cases ha
theorem d0t (ok:EnvOk E) (r:HRel E.G I K ρ h w) {src dst:TypeId} {x v:AV} {c:Value} (hv:a67 E h src dst x = some v) (hx:VRel I w ρ x c) :
 ∃ d,(convert src dst c).run E.P w = .ok d w ∧ VRel I w ρ v d:=by
 unfold a67 at hv
 split at hv
 ·cases hv
 ·rename_i y e hs hd hns
  split at hv
  case h_2=>cases hv
  rename_i he
  split at hv
  case h_2=>cases hv
  rename_i rows hr
  split at hv
  case h_2=>cases hv
  rename_i l hl
  cases hv
  obtain ⟨hlen,⟨cv,hrun,hrel⟩,hk⟩:=a4v r hr hx
  obtain ⟨s,h1,h2⟩:=b72 (E:=E) (w:=w) .empty hl hrel
  have hrun0:=hrun w ⟨rfl,rfl,rfl,rfl⟩
  refine ⟨.string s,?_,by simp only [VRel];exact ⟨s,rfl,by simpa using h2⟩⟩
  unfold a2j at hr
  split at hr
  ·simp only [VRel] at hx;subst hx
   cases hr
   simp only [a6m,Option.some.injEq] at hl;subst hl
   have:s = .empty:=by
    cases s;simp only [List.append_nil] at h2
    have:=Array.toList_inj.1 h2
    subst this;rfl
   subst this
   simp [convert,a08 ok w hs,a08 ok w hd,a08 ok w he,Conv.bytesToString]
  ·simp only [VRel] at hx
   obtain ⟨a,cc,k,rfl,_⟩:=hx
   rw [cond_eq_ite] at hr
   split at hr
   case isFalse=>cases hr
   cases hr
   simp only [Builtin.firstCells,Nat.mul_one] at hrun0
   simp only [convert,Sem.run_bind,a08 ok w hs,a08 ok w hd,a08 ok w he,Result.andThen_ok,Conv.bytesToString,hrun0]
   rw [← Array.forIn_toList]
   exact (congrArg (fun r=>r.andThen (fun a w'=>(pure (Value.string a):Sem Value).run E.P w')) (h1 _)).trans rfl
  ·simp only [VRel] at hx
   obtain ⟨a,cc,rfl,_⟩:=hx
   simp only [Builtin.lenOf,Sem.run_pure,Result.ok.injEq,and_true] at hlen
   rw [← hlen] at hrun0
   simp only [Builtin.firstCells,Nat.mul_one] at hrun0
   simp only [convert,Sem.run_bind,a08 ok w hs,a08 ok w hd,a08 ok w he,Result.andThen_ok,Conv.bytesToString,hrun0]
   rw [← Array.forIn_toList]
   exact (congrArg (fun r=>r.andThen (fun a w'=>(pure (Value.string a):Sem Value).run E.P w')) (h1 _)).trans rfl
  ·exact absurd rfl (hns _)
  ·cases hr
 ·exact d4b ok hv hx
def b67 (E:Env) (t:TypeId):AObj:=bif a88 E t then .uset [] else .map [] [] [] 0
theorem b9w (r:HRel E.G I K ρ h w) (hn:h n = none) (hρ:ρ n = none) {t:TypeId} {s:Sem Value}
 (hs:s.run E.P w = .ok (.map (some w.heap.size)) { w with heap:=w.heap.push (.map #[] 0) }):Val E I K ρ h n w s (.map n) (.new (b67 E t)):=by
 unfold b67
 cases a88 E t with
 | false=>exact d8x r hn hρ hs
 | true=>
  refine ⟨_,_,ρ.set n ⟨w.heap.size,0,0,0⟩,hs,?_,by simp only [VRel];exact ⟨_,by simp [PMap.set];rfl,rfl⟩,Moves.set _ _ _ rfl⟩
  refine a2c (ob:=.map #[] 0) r hn hρ rfl rfl rfl rfl rfl ?_
  exact ⟨#[],0,by simp,by simp,by simp,by simp,by simp,by simp⟩
def d4g (E:Env) (n:Nat) (h:FHeap) (b:Builtin) (ts:List TypeId) (args:List AV):Option (AV × Eff):=
 match b,ts,args with
 | .len,[t],[x]=>(c1e E h t x).map (·,.none)
 | .cap,[t],[x]=>(d4d E t x).map (·,.none)
 | .append,[st,xt],[s,x]=>oor (a4i E h n st xt s x) (a3h E n st xt s x)
 | .copy,[dt,_],[d,x]=>c6g E h dt d x
 | .clear,[t],[x]=>b71 E h t x
 | .delete,[t,_],[m,k]=>(b5h E h t m k).map (.tuple [],·)
 | .min,_,x :: xs=>(d5r x xs).map (·,.none)
 | .max,_,x :: xs=>(d46 x xs).map (·,.none)
 | _,_,_=>none
def aop (E:Env) (n:Nat) (h:FHeap) (op:Op) (v:Operand → AV):Option (AV × Eff):=
 match op with
 | .move x=>some (v x,.none)
 | .assign x=>some (v x,.none)
 | .pick c a b=>match v c with
  | .bool t=>some (b5r t (v a) (v b),.none)
  | _=>none
 | .alloc t=>d8w E n t
 | .box _ x=>d98 n (v x)
 | .build t ps=>(b73 E t (ps.toList.map fun p=>(p.1,v p.2))).map (·,.none)
 | .buildSlice t len ps=>a3b E n t len (ps.toList.map fun p=>(p.1,v p.2))
 | .load t a=>(a6a E h t (v a)).map (·,.none)
 | .store t a x=>(a7z E h t (v a) (v x)).map (.tuple [],·)
 | .nilCheck x=>match v x with
  | .ptr b i o=>some (.ptr b i o,.none)
  | .iptr cs=>some (.iptr cs,.none)
  | .func (.func f) fs cs=>some (.func (.func f) fs cs,.none)
  | _=>none
 | .binOp op t x y _=>(a7c E op t (v x) (v y) (a4e x || a4e y)).map (·,.none)
 | .unOp op _ x=>(aun op (v x)).map (·,.none)
 | .convert s d x=>(a67 E h s d (v x)).map (·,.none)
 | .makeInterface t x=>match E.und t with
  | some (.interface _)=>none
  | some _=>some (.iface t (v x),.none)
  | none=>none
 | .makeFunc fn first cap=>some (.func fn (first.toList.map v) (cap.toList.map v),.none)
 | .makeMap t r=>match r with
  | none=>some (.map n,.new (b67 E t))
  | some x=>match E.und t,v x with
   | some (.map _ _),.int _ _=>some (.map n,.new (b67 E t))
   | _,_=>none
 | .makeSlice t l c=>a40 E n t (v l) (v c)
 | .slice t x lo hi mx=>(a3z E h t (v x) (lo.map v) (hi.map v) (mx.map v)).map (·,.none)
 | .fieldAddr s x f=>(a5s E s (v x) f).map (·,.none)
 | .field t x f=>(d0p E t (v x) f).map (·,.none)
 | .indexAddr t x ix=>(a0u E h t (v x) (v ix)).map (·,.none)
 | .index t x ix=>(d0n E t (v x) (v ix)).map (·,.none)
 | .lookup t x k ok=>(oor (a30 E h t (v x) (v k) ok) (b0t E h t (v x) (v k) ok)).map (·,.none)
 | .mapUpdate t m k x=>(oor (a1c E h t (v m) (v k) (v x)) (b0p E h t (v m) (v k) (v x))).map (.tuple [],·)
 | .insert t m k x=>(oor (a1c E h t (v m) (v k) (v x)) (b0p E h t (v m) (v k) (v x))).map (.tuple [],·)
 | .mapEntry t m k=>a4g E h t (v m) (v k)
 | .entryStore _ m s x=>(a1w h (v m) (v s) (v x)).map (.tuple [],·)
 | .extract t i=>match v t with
  | .tuple vs=>match vs[i]? with
   | some x=>some (x,.none)
   | none=>none
  | _=>none
 | .range t x=>oor (b2h E n t (v x)) (b1z E n t (v x))
 | .next it b=>c18 h (v it) b
 | .entry it=>(a7w h (v it)).map (·,.none)
 | .call { callee:=.builtin b,args,argTypes }=>d4g E n h b argTypes.toList (args.toList.map v)
 | _=>none
def OpOk (E:Env) (I K:Nat → Prop) (ρ:PMap) (h:FHeap) (n:Nat) (a:Act) (w:World) (o:Oper) (v:AV) (e:Eff):Prop:=
 ∃ x w' c ρ',(execOp a.eval o).run E.P w = .ok x w' ∧ (x = .value c ∨ (x = .skip ∧ c = undef)) ∧ Stepped E.G I K ρ w I ρ' (h.eff n e) w' ∧ VRel I w' ρ' v c ∧ Moves ρ ρ' n e
theorem OpOk.val {a:Act} {o:Oper} {v:AV} {e:Eff} {s:Sem Value} (hs:execOp a.eval o = (do pure (.value (← s)))) (hv:Val E I K ρ h n w s v e):OpOk E I K ρ h n a w o v e:=by
 obtain ⟨c,w',ρ',h1,h2,h3,h4⟩:=hv
 exact ⟨.value c,w',c,ρ',by rw [hs];simp [h1],.inl rfl,h2,h3,h4⟩
theorem OpOk.done {a:Act} {o:Oper} {e:Eff} {s:Sem Unit} (hs:execOp a.eval o = (do s;pure .skip)) (hv:e2v E I K ρ h n w s e):OpOk E I K ρ h n a w o (.tuple []) e:=by
 obtain ⟨w',ρ',h1,h2,h4⟩:=hv
 exact ⟨.skip,w',undef,ρ',by rw [hs];simp [h1],.inr ⟨rfl,rfl⟩,h2,by simp only [VRel,undef];exact ⟨#[],rfl,by simp [VRels]⟩,h4⟩
theorem a05 {α β:Type} {x:Option α} {f:α → β} {y:β} (h:x.map f = some y):∃ a,x = some a ∧ f a = y:=by
 cases x with
 | none=>cases h
 | some a=>simp only [Option.map_some,Option.some.injEq] at h;exact ⟨a,rfl,h⟩
theorem a50 {a:Act} {v:Operand → AV} (hv:∀ x,VRel I w ρ (v x) (a.eval x)):∀ l:List Operand,VRels I w ρ (l.map v) (l.map a.eval)
 | []=>by simp [VRels]
 | x :: l=>by simp only [List.map_cons,VRels];exact ⟨_,_,rfl,hv x,a50 hv l⟩
theorem b3s {a:Act} {v:Operand → AV} (hv:∀ x,VRel I w ρ (v x) (a.eval x)):∀ l:List (Nat × Operand),a5o I w ρ (l.map fun p=>(p.1,v p.2)) (l.map fun p=>(p.1,a.eval p.2))
 | []=>by simp [a5o]
 | x :: l=>by simp only [List.map_cons,a5o];exact ⟨_,_,rfl,hv x.2,b3s hv l⟩
theorem b1d {a:Act} {v:Operand → AV} (hv:∀ x,VRel I w ρ (v x) (a.eval x)) (x:Option Operand):a3c I w ρ (x.map v) (x.map a.eval):=by
 cases x with
 | none=>simp [a3c]
 | some x=>simp only [Option.map_some,a3c];exact ⟨_,rfl,hv x⟩
theorem d99 (ok:EnvOk E) (r:HRel E.G I K ρ h w) (hn:h n = none) (hρ:ρ n = none) {b:Builtin} {ts:List TypeId} {args:List AV} {cargs:List Value} {v:AV} {e:Eff} (ty:TypeId) (cst:Array Bool)
 (ha:d4g E n h b ts args = some (v,e)) (hv:VRels I w ρ args cargs):∃ s:Sem Value,builtin b ts.toArray ty cst cargs.toArray = (do pure (.value (← s))) ∧ Val E I K ρ h n w s v e:=by
 unfold d4g at ha
 split at ha
 ·simp only [VRels] at hv
  obtain ⟨c,_,rfl,hx,rfl⟩:=hv
  obtain ⟨a,h1,h2⟩:=a05 ha
  cases h2
  exact ⟨_,rfl,d8y ok r ty h1 hx⟩
 ·simp only [VRels] at hv
  obtain ⟨c,_,rfl,hx,rfl⟩:=hv
  obtain ⟨a,h1,h2⟩:=a05 ha
  cases h2
  exact ⟨_,rfl,d94 ok r ty h1 hx⟩
 ·simp only [VRels] at hv
  obtain ⟨c,_,rfl,hx,c2,_,rfl,hy,rfl⟩:=hv
  refine ⟨_,rfl,?_⟩
  rcases a9p ha with ha|ha
  ·exact c6j ok r hn hρ ty ha hx hy
  ·exact c36 ok r hn hρ ty ha hx hy
 ·simp only [VRels] at hv
  obtain ⟨c,_,rfl,hx,c2,_,rfl,hy,rfl⟩:=hv
  exact ⟨_,rfl,d4a ok r ty ha hx hy⟩
 ·simp only [VRels] at hv
  obtain ⟨c,_,rfl,hx,rfl⟩:=hv
  exact ⟨_,rfl,d0u ok r ty ha hx⟩
 ·simp only [VRels] at hv
  obtain ⟨c,_,rfl,hx,c2,_,rfl,hy,rfl⟩:=hv
  obtain ⟨a,h1,h2⟩:=a05 ha
  cases h2
  exact ⟨_,rfl,d49 ok r ty h1 hx hy⟩
 ·simp only [VRels] at hv
  obtain ⟨c,cs,rfl,hx,hxs⟩:=hv
  obtain ⟨a,h1,h2⟩:=a05 ha
  cases h2
  obtain ⟨d,h3,h4⟩:=d0h (E:=E) (w:=w) h1 hx hxs
  exact ⟨_,rfl,Val.here r (by simpa [Builtin.min_] using h3) h4⟩
 ·simp only [VRels] at hv
  obtain ⟨c,cs,rfl,hx,hxs⟩:=hv
  obtain ⟨a,h1,h2⟩:=a05 ha
  cases h2
  obtain ⟨d,h3,h4⟩:=d0i (E:=E) (w:=w) h1 hx hxs
  exact ⟨_,rfl,Val.here r (by simpa [Builtin.max_] using h3) h4⟩
 ·cases ha
theorem d5q (ok:EnvOk E) (r:HRel E.G I K ρ h w) (hn:h n = none) (hρ:ρ n = none) {a:Act} {o:Oper} {v:Operand → AV} {x:AV} {e:Eff} (ha:aop E n h o.op v = some (x,e))
 (hv:∀ x,VRel I w ρ (v x) (a.eval x)):OpOk E I K ρ h n a w o x e:=by
 obtain ⟨dst,op,type,pos,after,guard⟩:=o
 simp only at ha
 unfold aop at ha
 split at ha
 ·cases ha;exact ⟨_,w,_,ρ,rfl,.inl rfl,Stepped.refl r,hv _,Moves.same _ _ _⟩
 ·cases ha;exact ⟨_,w,_,ρ,rfl,.inl rfl,Stepped.refl r,hv _,Moves.same _ _ _⟩
 ·rename_i c p q
  split at ha
  case h_2=>cases ha
  rename_i t hc
  cases ha
  have hcv:=hv c
  rw [hc] at hcv
  simp only [VRel] at hcv
  refine ⟨.value (if t then a.eval p else a.eval q),w,_,ρ,?_,.inl rfl,Stepped.refl r,d42 (hv p) (hv q),Moves.same _ _ _⟩
  simp [execOp,hcv,asBool]
 ·exact OpOk.val rfl (d8v ok r hn hρ ha _)
 ·exact OpOk.val rfl (d97 r hn hρ ha (hv _))
 ·obtain ⟨y,h1,h2⟩:=a05 ha
  cases h2
  rename_i t ps
  have:=d0v (n:=n) ok r h1 (b3s hv ps.toList)
  refine OpOk.val (s:=Instr.build t (ps.toList.map fun p=>(p.1,a.eval p.2)).toArray) ?_ this
  show (do pure (Next.value (← Instr.build t (ps.map fun (i,x)=>(i,a.eval x))))) = _
  congr 2
  apply Array.ext'
  simp
 ·rename_i t len ps
  have:=b5t (n:=n) ok r hn hρ ha (b3s hv ps.toList)
  refine OpOk.val (s:=Instr.buildSlice t len (ps.toList.map fun p=>(p.1,a.eval p.2)).toArray) ?_ this
  show (do pure (Next.value (← Instr.buildSlice t len (ps.map fun (i,x)=>(i,a.eval x))))) = _
  congr 2
  apply Array.ext'
  simp
 ·obtain ⟨y,h1,h2⟩:=a05 ha
  cases h2
  exact OpOk.val rfl (d47 ok r h1 (hv _))
 ·obtain ⟨y,h1,h2⟩:=a05 ha
  cases h2
  exact OpOk.done rfl (d08 ok r h1 (hv _) (hv _))
 ·rename_i y
  have hy:=hv y
  split at ha
  ·rename_i b i o hq;cases ha
   rw [hq] at hy
   have hy':=hy
   simp only [VRel] at hy'
   obtain ⟨m,hm,hc⟩:=hy'
   exact ⟨.value (a.eval y),w,_,ρ,by simp [execOp,hc],.inl rfl,Stepped.refl r,hy,Moves.same _ _ _⟩
  ·rename_i cs hq;cases ha
   rw [hq] at hy
   have hy':=hy
   simp only [VRel] at hy'
   obtain ⟨b,off,hc,_⟩:=hy'
   exact ⟨.value (a.eval y),w,_,ρ,by simp [execOp,hc],.inl rfl,Stepped.refl r,hy,Moves.same _ _ _⟩
  ·rename_i f fs cs hq;cases ha
   rw [hq] at hy
   have hy':=hy
   simp only [VRel] at hy'
   obtain ⟨fs',cs',hc,_⟩:=hy'
   exact ⟨.value (a.eval y),w,_,ρ,by simp [execOp,hc],.inl rfl,Stepped.refl r,hy,Moves.same _ _ _⟩
  ·cases ha
 ·obtain ⟨y,h1,h2⟩:=a05 ha
  cases h2
  obtain ⟨c,h3,h4⟩:=d9a (E:=E) (w:=w) ok h1 (hv _) (hv _)
  exact OpOk.val rfl (Val.here r h3 h4)
 ·obtain ⟨y,h1,h2⟩:=a05 ha
  cases h2
  obtain ⟨c,h3,h4⟩:=e2k (E:=E) (w:=w) h1 (hv _)
  exact OpOk.val rfl (Val.here r h3 h4)
 ·obtain ⟨y,h1,h2⟩:=a05 ha
  cases h2
  obtain ⟨c,h3,h4⟩:=d0t ok r h1 (hv _)
  exact OpOk.val rfl (Val.here r h3 h4)
 ·rename_i t y
  split at ha
  ·cases ha
  ·rename_i d hne hd
   cases ha
   refine OpOk.val (s:=Instr.makeInterface t (a.eval y)) rfl (Val.here (c:=.iface t (a.eval y)) r ?_ (by simp only [VRel];exact ⟨_,rfl,hv y⟩))
   simp only [Instr.makeInterface,Sem.run_bind,a08 ok w hd,Result.andThen_ok]
   cases d<;>first|rfl|(exact absurd rfl (hne _))
  ·cases ha
 ·rename_i fn first cap
  cases ha
  refine OpOk.val (s:=Instr.makeFunc fn (first.map a.eval) (cap.map a.eval)) rfl (Val.here r rfl ?_)
  simp only [VRel]
  exact ⟨_,_,rfl,by rw [Array.toList_map];exact a50 hv _,by rw [Array.toList_map];exact a50 hv _⟩
 ·rename_i t rr
  split at ha
  ·cases ha
   exact OpOk.val (s:=Instr.makeMap t none) rfl (b9w r hn hρ (by simp [Instr.makeMap]))
  ·rename_i y
   split at ha
   case h_2=>cases ha
   rename_i hd hy
   cases ha
   have hyv:=hv y
   rw [hy] at hyv
   simp only [VRel] at hyv
   refine OpOk.val (s:=Instr.makeMap t (some (a.eval y))) rfl (b9w r hn hρ ?_)
   simp [Instr.makeMap,a08 ok w hd,hyv,asInt,asIntOf]
 ·exact OpOk.val rfl (b8s ok r hn hρ ha (hv _) (hv _))
 ·obtain ⟨y,h1,h2⟩:=a05 ha
  cases h2
  exact OpOk.val rfl (d09 ok r h1 (hv _) (b1d hv _) (b1d hv _) (b1d hv _))
 ·obtain ⟨y,h1,h2⟩:=a05 ha
  cases h2
  exact OpOk.val rfl (b8w ok r h1 (hv _))
 ·obtain ⟨y,h1,h2⟩:=a05 ha
  cases h2
  exact OpOk.val rfl (d0o ok r h1 (hv _))
 ·obtain ⟨y,h1,h2⟩:=a05 ha
  cases h2
  exact OpOk.val rfl (b8u ok r h1 (hv _) (hv _))
 ·obtain ⟨y,h1,h2⟩:=a05 ha
  cases h2
  exact OpOk.val rfl (d0m ok r h1 (hv _) (hv _))
 ·obtain ⟨y,h1,h2⟩:=a05 ha
  cases h2
  rcases a9p h1 with h1|h1
  ·exact OpOk.val rfl (c6c ok r h1 (hv _) (hv _))
  ·exact OpOk.val rfl (d0k ok r h1 (hv _) (hv _))
 ·obtain ⟨y,h1,h2⟩:=a05 ha
  cases h2
  rcases a9p h1 with h1|h1
  ·exact OpOk.done rfl (b0s ok r h1 (hv _) (hv _) (hv _))
  ·exact OpOk.done rfl (c4e ok r h1 (hv _) (hv _) (hv _))
 ·obtain ⟨y,h1,h2⟩:=a05 ha
  cases h2
  rcases a9p h1 with h1|h1
  ·exact OpOk.done rfl (b0s ok r h1 (hv _) (hv _) (hv _))
  ·exact OpOk.done rfl (c4e ok r h1 (hv _) (hv _) (hv _))
 ·exact OpOk.val rfl (c1a ok r ha (hv _) (hv _))
 ·obtain ⟨y,h1,h2⟩:=a05 ha
  cases h2
  exact OpOk.done rfl (b5s r h1 (hv _) (hv _) (hv _))
 ·rename_i t i
  split at ha
  case h_2=>cases ha
  rename_i vs ht
  split at ha
  case h_2=>cases ha
  rename_i y hy
  cases ha
  have htv:=hv t
  rw [ht] at htv
  simp only [VRel] at htv
  obtain ⟨cs,hc,hcs⟩:=htv
  obtain ⟨c,hcc,hr⟩:=VRels.get i hcs hy
  refine OpOk.val (s:=Instr.extract (a.eval t) i) rfl (Val.here (c:=c) r ?_ hr)
  have:cs[i]? = some c:=by simpa using hcc
  simp [Instr.extract,hc,this]
 ·rcases a9p ha with ha|ha
  ·exact OpOk.val rfl (d0c ok r hn hρ ha (hv _))
  ·exact OpOk.val rfl (c6b ok r hn hρ ha (hv _))
 ·exact OpOk.val rfl (d44 r type ha (hv _))
 ·obtain ⟨y,h1,h2⟩:=a05 ha
  cases h2
  exact OpOk.val rfl (c6f r h1 (hv _))
 ·rename_i b args ts
  obtain ⟨s,hs,hval⟩:=d99 (E:=E) ok r hn hρ type (args.map fun|.const _=>true|_=>false) ha (a50 hv args.toList)
  refine OpOk.val ?_ hval
  have ht:ts.toList.toArray = ts:=by apply Array.ext';simp
  rw [ht] at hs
  rw [← hs]
  have hm:(args.toList.map a.eval).toArray = args.map a.eval:=by apply Array.ext';simp
  rw [hm]
  rfl
 ·cases ha
end
end Go.Ax
