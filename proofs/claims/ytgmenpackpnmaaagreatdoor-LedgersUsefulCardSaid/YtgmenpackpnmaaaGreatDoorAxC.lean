/- AxSame: values and objects, compared. -/
import Derived.Test.YtgmenpackpnmaaaGreatDoorAxA
import Derived.Lib.Bytealg
import Derived.Orders
import Derived.Scope
import Derived.Below
import GoSem.ClaimChange
import GoSem.ClaimJoined
import Derived.RowKit
import Derived.ChangeSame
import Derived.Carry
import Derived.IntWalk
import Derived.KernelRfl
set_option linter.unusedSimpArgs false
set_option linter.unusedVariables false
namespace Go.Ax
mutual
def b0h:AV → AV → Bool
 | .junk,.junk=>true
 | .bool a,.bool b=>a == b
 | .int k a,.int k' b=>decide (k = k') && decide (a = b)
 | .str a,.str b=>decide (a = b)
 | .nilptr,.nilptr=>true
 | .nilslice,.nilslice=>true
 | .nilmap,.nilmap=>true
 | .nilfunc,.nilfunc=>true
 | .nilifc,.nilifc=>true
 | .ptr a b c,.ptr d e f=>decide (a = d) && (decide (b = e) && decide (c = f))
 | .iptr a,.iptr b=>a7s a b
 | .slice a b c d,.slice e f g h=>decide (a = e) && (decide (b = f) && (decide (c = g) && decide (d = h)))
 | .islice r c,.islice s d=>b5q r s && decide (c = d)
 | .map a,.map b=>decide (a = b)
 | .imap a b c d,.imap e f g h=>a7s a e && (a7s b f && (decide (c = g) && decide (d = h)))
 | .func f a b,.func g c d=>decide (f = g) && (a7s a c && a7s b d)
 | .iface t x,.iface u y=>decide (t = u) && b0h x y
 | .agg a,.agg b=>a7s a b
 | .tuple a,.tuple b=>a7s a b
 | _,_=>false
def a7s:List AV → List AV → Bool
 | [],[]=>true
 | x :: xs,y :: ys=>b0h x y && a7s xs ys
 | _,_=>false
def b5q:List (List AV) → List (List AV) → Bool
 | [],[]=>true
 | x :: xs,y :: ys=>a7s x y && b5q xs ys
 | _,_=>false
end
mutual
theorem c15:∀ (a b:AV),b0h a b = true → a = b
 | a,b,h=>by
  cases a<;>cases b<;>simp only [b0h,Bool.and_eq_true,decide_eq_true_eq,beq_iff_eq,Bool.false_eq_true] at h
  case junk.junk=>rfl
  case bool.bool=>rw [h]
  case int.int=>rw [h.1,h.2]
  case str.str=>rw [h]
  case nilptr.nilptr=>rfl
  case nilslice.nilslice=>rfl
  case nilmap.nilmap=>rfl
  case nilfunc.nilfunc=>rfl
  case nilifc.nilifc=>rfl
  case ptr.ptr=>rw [h.1,h.2.1,h.2.2]
  case iptr.iptr=>rw [a3v _ _ h]
  case slice.slice=>rw [h.1,h.2.1,h.2.2.1,h.2.2.2]
  case islice.islice=>rw [b5p _ _ h.1,h.2]
  case map.map=>rw [h]
  case imap.imap=>rw [a3v _ _ h.1,a3v _ _ h.2.1,h.2.2.1,h.2.2.2]
  case func.func=>rw [h.1,a3v _ _ h.2.1,a3v _ _ h.2.2]
  case iface.iface=>rw [h.1,c15 _ _ h.2]
  case agg.agg=>rw [a3v _ _ h]
  case tuple.tuple=>rw [a3v _ _ h]
theorem a3v:∀ (a b:List AV),a7s a b = true → a = b
 | [],[],_=>rfl
 | x :: xs,y :: ys,h=>by
  simp only [a7s,Bool.and_eq_true] at h
  rw [c15 x y h.1,a3v xs ys h.2]
 | [],_ :: _,h=>by simp [a7s] at h
 | _ :: _,[],h=>by simp [a7s] at h
theorem b5p:∀ (a b:List (List AV)),b5q a b = true → a = b
 | [],[],_=>rfl
 | x :: xs,y :: ys,h=>by
  simp only [b5q,Bool.and_eq_true] at h
  rw [a3v x y h.1,b5p xs ys h.2]
 | [],_ :: _,h=>by simp [b5q] at h
 | _ :: _,[],h=>by simp [b5q] at h
end
mutual
theorem b4a:∀ (a:AV),b0h a a = true
 | .junk|.bool _|.int _ _|.str _|.nilptr|.nilslice|.nilmap|.nilfunc|.nilifc|.ptr _ _ _|.slice _ _ _ _|.map _=>by simp [b0h]
 | .iptr a=>by simp only [b0h];exact a2p a
 | .islice r c=>by simp only [b0h,b0i r,decide_true,Bool.and_self]
 | .imap a b c d=>by simp only [b0h,a2p a,a2p b,decide_true,Bool.and_self]
 | .func f a b=>by simp only [b0h,a2p a,a2p b,decide_true,Bool.and_self]
 | .iface t x=>by simp only [b0h,b4a x,decide_true,Bool.and_self]
 | .agg a=>by simp only [b0h];exact a2p a
 | .tuple a=>by simp only [b0h];exact a2p a
theorem a2p:∀ (a:List AV),a7s a a = true
 | []=>rfl
 | x :: xs=>by simp only [a7s,b4a x,a2p xs,Bool.and_self]
theorem b0i:∀ (a:List (List AV)),b5q a a = true
 | []=>rfl
 | x :: xs=>by simp only [b5q,a2p x,b0i xs,Bool.and_self]
end
def b7j:Option AObj → Option AObj → Bool
 | none,none=>true
 | some (.row k r),some (.row l s)=>decide (k = l) && b5q r s
 | some (.map a b c d),some (.map e f g h)=>a7s a e && (a7s b f && (decide (c = g) && decide (d = h)))
 | some (.siter s p),some (.siter t q)=>decide (s = t) && decide (p = q)
 | _,_=>false
theorem d0b (a b:Option AObj) (h:b7j a b = true):a = b:=by
 unfold b7j at h
 split at h
 ·rfl
 ·simp only [Bool.and_eq_true,decide_eq_true_eq] at h;rw [h.1,b5p _ _ h.2]
 ·simp only [Bool.and_eq_true,decide_eq_true_eq] at h;rw [a3v _ _ h.1,a3v _ _ h.2.1,h.2.2.1,h.2.2.2]
 ·simp only [Bool.and_eq_true,decide_eq_true_eq] at h;rw [h.1,h.2]
 ·cases h
@[go_sem] theorem d98 (a:Option AObj):b7j a a = true:=by
 cases a with
 | none=>rfl
 | some o=>cases o with
  | row k r=>simp only [b7j,b0i,decide_true,Bool.and_self]
  | map a b c d=>simp only [b7j,a2p,decide_true,Bool.and_self]
  | siter s p=>simp only [b7j,decide_true,Bool.and_self]
end Go.Ax
/- AxRun: the evaluator: operations in a row, statements, calls. Definitions only. -/
namespace Go.Ax
def a04 (H:a06):FHeap:=fun b=>(H[b]?).join
def b01 (H:a06):Eff → a06
 | .none=>H
 | .new o=>H ++ [some o]
 | .set b o=>H.set b (some o)
 | .kill b o=>H.set b none ++ [some o]
/-! ### what a value refers to -/
mutual
def refs:AV → List Nat
 | .ptr b _ _=>[b]
 | .slice b _ _ _=>[b]
 | .map b=>[b]
 | .func _ fs cs=>a0d fs ++ a0d cs
 | .iface _ x=>refs x
 | .agg cs=>a0d cs
 | .tuple cs=>a0d cs
 | .junk|.bool _|.int ..|.str _|.nilptr|.nilslice|.nilmap|.nilfunc|.nilifc|.iptr _|.islice ..|.imap ..=>[]
def a0d:List AV → List Nat
 | []=>[]
 | v :: vs=>refs v ++ a0d vs
end
def a0v:Option AObj → List Nat
 | some (.row _ rows)=>rows.flatMap a0d
 | some (.map ks vs _ _)=>a0d ks ++ a0d vs
 | _=>[]
def a1f:List Nat → Nat → Bool
 | [],_=>false
 | a :: r,x=>bif Nat.beq a x then true else a1f r x
theorem a2m {l:List Nat} {x:Nat}:a1f l x = true ↔ x ∈ l:=by
 induction l with
 | nil=>simp [a1f]
 | cons a r ih=>
  simp only [a1f,c1m,cond_eq_ite,List.mem_cons]
  by_cases h:a = x
  ·simp [h]
  ·simp only [beq_eq_false_iff_ne.2 h,Bool.false_eq_true,if_false,ih]
   exact ⟨.inr,fun h'=>h'.resolve_left (fun e=>h e.symm)⟩
def a2j (H:a06):Nat → List Nat → List Nat → List Nat
 | 0,_,acc=>acc.reverse
 | _ + 1,[],acc=>acc.reverse
 | n + 1,b :: todo,acc=>bif a1f acc b then a2j H n todo acc else a2j H n (a0v (a04 H b) ++ todo) (b :: acc)
def a4o:Nat:=1000000
/-! ### renaming a heap -/
def a50 (σ:List Nat):Nat → Option Nat:=fun b=>σ.idxOf? b
def a1n (H:a06) (σ:List Nat) (π:Nat → Option Nat):a06:=σ.map fun b=>(a04 H b).map (a0m π)
def a18 (σ:List Nat) (n:Nat):Nat → Option Nat:=fun j=>bif Nat.blt j σ.length then σ[j]? else some (n + (j - σ.length))
def a11 (σ:List Nat) (n:Nat) (H1:a06):Nat → a06 → a06
 | _,[]=>[]
 | b,o :: r=>(match σ.idxOf? b with
  | some j=>(a04 H1 j).map (a0m (a18 σ n))
  | none=>o) :: a11 σ n H1 (b + 1) r
def a51:List Nat → Bool
 | []=>true
 | b :: r=>!(a1f r b) && a51 r
def a2t (run:List AV → a06 → Option (AV × a06)) (args:List AV) (H:a06):Option (AV × a06 × List Nat):=
 let σ:=a2j H a4o (a0d args) []
 bif a51 σ && σ.all (fun b=>Nat.blt b H.length) then
  match run (args.map (ren (a50 σ))) (a1n H σ (a50 σ)) with
  | some (v,H1)=>some (ren (a18 σ H.length) v,a11 σ H.length H1 0 H ++ (H1.drop σ.length).map (Option.map (a0m (a18 σ H.length))),σ)
  | none=>none
 else none
def e7x (args:List AV):Option AV:=
 match args with
 | [.str s,.int .u8 c]=>some (.int .i64 (Lib.indexByte s c.toNat.toUInt8))
 | _=>none
def a0e (E:Env) (draw:Bool) (call:FuncId → List AV → a06 → Option (AV × a06)) (f:AV) (args:List AV) (H:a06):Option (AV × a06 × List Nat):=
 match f with
 | .func (.func g) fs cs=>bif E.ext g then match e7x (fs ++ args ++ cs) with
  | some v=>some (v,H,[])
  | none=>none
  else bif (E.fn g).isSome then
   match a2t (call g) (fs ++ args ++ cs) H with
   | some (v,H',σ)=>bif draw && !(Nat.beq H'.length H.length || Nat.beq H'.length (H.length + 1)) then none else some (v,H',σ)
   | none=>none
  else none
 | _=>none
/-! ### operations in a row -/
structure LogE where
 needs:List Nat
 keys:List Nat
def Eff.keys (n:Nat):Eff → List Nat
 | .none=>[]
 | .new _=>[n]
 | .set b _=>[b]
 | .kill b _=>[b,n]
def Eff.fits (n:Nat):Eff → Bool
 | .set b _=>Nat.blt b n
 | .kill b _=>Nat.blt b n
 | _=>true
def a0u:AV → List Nat
 | .ptr b _ _=>[b]
 | .slice b _ _ _=>[b]
 | .map b=>[b]
 | _=>[]
def a7k (op:Op) (v:Operand → AV):List Nat:=
 match op with
 | .load _ a=>a0u (v a)
 | .store _ a _=>a0u (v a)
 | .convert _ _ x=>a0u (v x)
 | .slice _ x _ _ _=>a0u (v x)
 | .indexAddr _ x _=>a0u (v x)
 | .lookup _ m _ _=>a0u (v m)
 | .mapUpdate _ m _ _=>a0u (v m)
 | .insert _ m _ _=>a0u (v m)
 | .mapEntry _ m _=>a0u (v m)
 | .entryStore _ m _ _=>a0u (v m)
 | .next it _=>a0u (v it)
 | .call { callee:=.builtin _,args,.. }=>args.toList.flatMap fun x=>a0u (v x)
 | _=>[]
def a9j (E:Env) (f:AV) (H H':a06) (σ:List Nat):Bool:=match f with
 | .func (.func g) _ _=>E.ro g && σ.all fun b=>b7j (a04 H b) (a04 H' b)
 | _=>false
def b87 (ro:Bool) (σ:List Nat) (n n':Nat):List Nat:=bif Nat.beq n' n then (bif ro then [] else σ) else σ ++ [n]
def a0z (E:Env) (draw:Bool) (call:FuncId → List AV → a06 → Option (AV × a06)) (F:Frm) (H:a06) (op:Op):Option (AV × a06 × LogE):=
 match op with
 | .call { callee:=.value f,args,.. }=>match a0e E draw call (opv E F f) (args.toList.map (opv E F)) H with
  | some (v,H',σ)=>some (v,H',⟨σ,b87 (a9j E (opv E F f) H H' σ) σ H.length H'.length⟩)
  | none=>none
 | op=>match aop E H.length (a04 H) op (opv E F) with
  | some (v,e)=>bif e.fits H.length then some (v,b01 H e,⟨a7k op (opv E F),e.keys H.length⟩) else none
  | none=>none
def a6v (N:Nat):Option Tmp → Bool
 | none=>true
 | some d=>Nat.blt d N
def b2l (a b:List Nat):Bool:=a.any fun x=>a1f b x
def LogE.clash (x y:LogE):Bool:=b2l x.keys y.needs || b2l x.keys y.keys || b2l x.needs y.keys
def a9t (all:List Oper) (i:Nat):Nat → Nat → Bool
 | 0,_=>false
 | n + 1,j=>match all[j]? with
  | some o=>o.after.toList.any fun e=>Region.binds .any e && (e.on == i || a9t all i n e.on)
  | none=>false
def d4f (all:List Oper) (i j:Nat):Bool:=
 match all[j]? with
 | some o=>o.after.toList.any fun e=>Region.binds .any e && e.on == i
 | none=>false
def a3x (all:List Oper) (i j:Nat):Bool:=d4f all i j || a9t all i all.length j
def logOk (all:List Oper):Nat → List LogE → Bool
 | _,[]=>true
 | 0,_ :: _=>false
 | j + 1,y :: rest=>logRow all j y j rest && logOk all j rest
 where logRow (all:List Oper) (j:Nat) (y:LogE):Nat → List LogE → Bool
 | _,[]=>true
 | 0,_ :: _=>false
 | i + 1,x :: rest=>(!(x.clash y) || a3x all i j) && logRow all j y i rest
def a2o (all:List Oper) (j:Nat):Option Nat:=(all[j]?).bind (·.dst)
def a2d (E:Env) (draw:Bool) (N:Nat) (call:FuncId → List AV → a06 → Option (AV × a06)) (all:List Oper) {R:Type} :
 List Oper → List LogE → Frm → a06 → (Frm → a06 → Option R) → Option R
 | [],log,F,H,k=>bif !draw || logOk all log.length log then k F H else none
 | o :: rest,log,F,H,k=>
  bif a6v N o.dst then
   match o.guard with
   | none=>match a0z E draw call F H o.op with
    | some (v,H',l)=>a2d E draw N call all rest (l :: log) (a3h F o.dst v) H' k
    | none=>none
   | some (j,want)=>match a2o all j with
    | none=>none
    | some d=>match a25 F d with
     | .bool b=>bif b then
      (bif want then match a0z E draw call (a3h F (some d) (.bool true)) H o.op with
       | some (v,H',l)=>a2d E draw N call all rest (l :: log) (a3h (a3h F (some d) (.bool true)) o.dst v) H' k
       | none=>none
      else a2d E draw N call all rest (⟨[],[]⟩ :: log) (a3h (a3h F (some d) (.bool true)) o.dst (.tuple [])) H k)
      else
       (bif want then a2d E draw N call all rest (⟨[],[]⟩ :: log) (a3h (a3h F (some d) (.bool false)) o.dst (.tuple [])) H k
       else match a0z E draw call (a3h F (some d) (.bool false)) H o.op with
        | some (v,H',l)=>a2d E draw N call all rest (l :: log) (a3h (a3h F (some d) (.bool false)) o.dst v) H' k
        | none=>none)
     | .tuple []=>a2d E draw N call all rest (⟨[],[]⟩ :: log) (a3h F o.dst (.tuple [])) H k
     | _=>none
  else none
/-! ### statements -/
inductive AExit where
 | normal
 | exit (id:Nat)
 | ret
def a1j (keep:List Nat) (F:Frm):Frm:=keep.map fun s=>(s,a25 F s)
def b0r (m0:Nat) (F:Frm) (H:a06):List Nat:=
 (a2j H a4o ((H.take m0).flatMap a0v ++ a0d (F.map (·.2))) []).filter fun b=>Nat.ble m0 b
def b6d (m0:Nat) (σ:List Nat):Nat → Option Nat:=fun b=>bif Nat.blt b m0 then some b else (σ.idxOf? b).map (m0 + ·)
def b9d (π:Nat → Option Nat) (F:Frm):Frm:=F.map fun x=>(x.1,ren π x.2)
def gcH (m0:Nat) (σ:List Nat) (H:a06):a06:=(H.take m0).map (Option.map (a0m (b6d m0 σ))) ++ a1n H σ (b6d m0 σ)
def b1e (m0:Nat) (keep:List Nat) {R:Type} (body:Frm → a06 → (AExit → Frm → a06 → Option R) → Option R):Nat → Frm → a06 → (AExit → Frm → a06 → Option R) → Option R
 | 0,_,_,_=>none
 | n + 1,F,H,k=>
  let F1:=a1j keep F
  let σ:=b0r m0 F1 H
  bif a51 σ && σ.all (fun b=>Nat.ble m0 b) && Nat.ble m0 H.length then
   body (b9d (b6d m0 σ) F1) (gcH m0 σ H) fun e F' H'=>match e with
    | .normal=>b1e m0 keep body n F' H' k
    | e=>k e F' H'
  else none
def c9i (keep:List Nat):Bool:=keep.any fun s=>Nat.beq s 1000000
def d9m (m:Nat) (H:a06) (v:AV):AV:=match a42 m true (a86 (a04 H) m 12) v with
 | some v'=>v'
 | none=>.junk
def c0d (m:Nat) (H:a06) (F:Frm):Frm:=F.map fun x=>(x.1,d9m m H x.2)
def c0c (m:Nat) (H:a06):a06:=(H.take m).map (Option.map (a0m (a19 m)))
def a6b (E:Env) (m0 N:Nat) (keep:Nat → List Nat) (call:FuncId → List AV → a06 → Option (AV × a06)) (lf:Nat) {R:Type} :
 Nat → Code → Frm → a06 → (AExit → Frm → a06 → Option R) → Option R
 | _,.skip,F,H,k=>k .normal F H
 | _,.label _,F,H,k=>k .normal F H
 | _,.region _ ops draw,F,H,k=>a2d E draw N call ops.toList ops.toList [] F H fun F' H'=>k .normal F' H'
 | cur,.seq a b,F,H,k=>a6b E m0 N keep call lf cur a F H fun e F' H'=>match e with
  | .normal=>a6b E m0 N keep call lf cur b F' H' k
  | e=>k e F' H'
 | cur,.cond c x y,F,H,k=>match opv E F c with
  | .bool t=>bif t then a6b E m0 N keep call lf cur x F H k else a6b E m0 N keep call lf cur y F H k
  | _=>none
 | _,.block id b,F,H,k=>a6b E m0 N keep call lf id b F H fun e F' H'=>match e with
  | .exit id'=>bif id' == id then k .normal F' H' else k (.exit id') F' H'
  | e=>k e F' H'
 | cur,.loop b,F,H,k=>b1e m0 (keep cur) (fun F H k=>a6b E m0 N keep call lf cur b F H k) lf F H fun e F' H'=>bif c9i (keep cur) then k e (c0d m0 H' F') (c0c m0 H') else k e F' H'
 | cur,.scope b,F,H,k=>a6b E m0 N keep call lf cur b F H k
 | _,.exit id,F,H,k=>k (.exit id) F H
 | _,.ret,F,H,k=>k .ret F H
 | _,_,_,_,_=>none
/-! ### functions -/
def a1b (E:Env) (F:Frm) (H:a06):List ResultVar → Option (List AV)
 | []=>some []
 | .tmp t :: r=>match a1b E F H r with
  | some vs=>some (a25 F t :: vs)
  | none=>none
 | .cell a t :: r=>match a7g E (a04 H) t (a25 F a),a1b E F H r with
  | some v,some vs=>some (v :: vs)
  | _,_=>none
def a45:List AV → AV
 | [v]=>v
 | vs=>.tuple vs
def a3n:Nat → List AV → Frm
 | _,[]=>[]
 | i,v :: vs=>(i,v) :: a3n (i + 1) vs
def a6z (h:FHeap) (b:Nat):FHeap:=fun x=>bif Nat.beq x b then none else h x
def e1i (m:Nat) (v:AV) (H:a06):Option (AV × a06):=match v with
 | .ptr b i o=>bif Nat.ble m b then (match a04 H b with
  | some (.row k rows)=>match d4b m (a86 (a6z (a04 H) b) m 12) rows with
   | some rows'=>some (.ptr m i o,(H.take m).map (Option.map (a0m (a19 m))) ++ [some (.row k rows')])
   | none=>none
  | _=>none) else none
 | .slice b off len cap=>some (.slice b off len cap,H)
 | .agg cs=>some (.agg cs,H)
 | .map b=>some (.map b,H)
 | .nilslice=>some (.nilslice,(H.take m).map (Option.map (a0m (a19 m))))
 | _=>none
def a2a (thaw:Bool) (m:Nat) (v:AV) (H:a06):Option (AV × a06):=
 bif thaw then (bif Nat.beq m 0 then e1i m v H else some (v,H)) else match a42 m true (a86 (a04 H) m 12) v with
  | some v'=>some (v',(H.take m).map (Option.map (a0m (a19 m))))
  | none=>some (v,H)
end Go.Ax
/- AxNow: what e1s at a3q point of a function's run, against its entry. -/
namespace Go.Ax
structure Entry where
 I:Nat → Prop
 K:Nat → Prop
 ρ:PMap
 m:Nat
 w:World
 defers:List Deferred
def NRel (ρ:PMap) (n:Nat):Prop:=∀ b,n ≤ b → ρ b = none
structure Now (E:Env) (e:Entry) (N:Nat) (F:Frm) (H:a06) (I:Nat → Prop) (ρ:PMap) (a:Act) (w:World):Prop where
 imm:∀ c,e.I c → I c
 map:∀ b,b < e.m → ρ b = e.ρ b
 ext:Ext e.I e.K e.w w
 rel:HRel E.G I e.K ρ (a04 H) w
 nrel:NRel ρ H.length
 frm:FRel I w ρ N F a.tmps
 low:e.m ≤ H.length
 defers:a.defers = e.defers
section
variable {E:Env}
theorem c4o (H:a06):a04 H H.length = none:=by simp [a04]
theorem e26 (H:a06) (e:Eff):∀ b o,a04 (b01 H e) b = some o → ((a04 H).eff H.length e) b = some o:=by
 intro b o hb
 cases e with
 | none=>exact hb
 | new o1=>
  simp only [b01,a04,FHeap.eff,FHeap.set] at hb ⊢
  by_cases h:b = H.length
  ·subst h;simp at hb;simp [hb]
  ·rw [if_neg h]
   rcases Nat.lt_or_ge b H.length with h1|h1
   ·rwa [List.getElem?_append_left h1] at hb
   ·rw [List.getElem?_eq_none (by simp;omega)] at hb;simp at hb
 | set b1 o1=>
  simp only [b01,a04,FHeap.eff,FHeap.set] at hb ⊢
  rw [List.getElem?_set] at hb
  by_cases h:b = b1
  ·subst h
   rw [if_pos rfl] at hb ⊢
   split at hb
   ·simpa using hb
   ·simp at hb
  ·rw [if_neg (fun e=>h e.symm)] at hb;rw [if_neg h];exact hb
 | kill b1 o1=>
  simp only [b01,a04,FHeap.eff,FHeap.set] at hb ⊢
  by_cases h:b = H.length
  ·subst h
   rw [List.getElem?_append_right (by simp)] at hb
   simp at hb;simp [hb]
  ·rw [if_neg h]
   rcases Nat.lt_or_ge b H.length with h1|h1
   ·rw [List.getElem?_append_left (by simpa using h1),List.getElem?_set] at hb
    by_cases h2:b = b1
    ·subst h2
     rw [if_pos rfl] at hb
     split at hb<;>simp at hb
    ·rw [if_neg (fun e=>h2 e.symm)] at hb;rw [if_neg h2];exact hb
   ·rw [List.getElem?_eq_none (by simp;omega)] at hb;simp at hb
theorem a9a (H:a06) (e:Eff):(b01 H e).length = if e.fresh then H.length + 1 else H.length:=by
 cases e<;>simp [b01,Eff.fresh]
theorem NRel.moves {ρ ρ':PMap} {H:a06} {e:Eff} (hn:NRel ρ H.length) (hm:Moves ρ ρ' H.length e):NRel ρ' (b01 H e).length:=by
 intro b hb
 rw [a9a] at hb
 cases hf:e.fresh with
 | false=>
  rw [hf] at hb
  rw [hm.2 hf];exact hn b (by simpa using hb)
 | true=>
  rw [hf] at hb
  have hb:H.length + 1 ≤ b:=by simpa using hb
  rw [hm.1 b (by omega)];exact hn b (by omega)
theorem Now.op (ok:EnvOk E) {e:Entry} {N:Nat} {F:Frm} {H:a06} {I:Nat → Prop} {ρ:PMap} {a:Act} {w:World} (h:Now E e N F H I ρ a w) {o:Oper} {v:AV} {eff:Eff}
 (ha:aop E H.length (a04 H) o.op (opv E F) = some (v,eff)) (hd:a6v N o.dst = true) :
 ∃ x w' c ρ',(execOp a.eval o).run E.P w = .ok x w' ∧ (x = .value c ∨ (x = .skip ∧ c = undef)) ∧ Now E e N (a3h F o.dst v) (b01 H eff) I ρ' (a.put o.dst c) w':=by
 obtain ⟨x,w',c,ρ',hrun,hx,step,hv,hm⟩:=d4l ok h.rel (c4o H) (h.nrel _ (Nat.le_refl _)) ha (c1j h.rel h.frm)
 refine ⟨x,w',c,ρ',hrun,hx,?_⟩
 have hd':∀ s,o.dst = some s → s < N:=by intro s hs;rw [hs] at hd;simpa [a6v,Nat.blt_eq] using hd
 refine ⟨h.imm,fun b hb=>?_,h.ext.trans h.imm step.ext,step.rel.fewer (e26 H eff),h.nrel.moves hm,?_,?_,?_⟩
 ·rw [hm.1 b (by have:=h.low;omega)];exact h.map b hb
 ·exact (FRel.mono h.frm (fun v c hv=>step.vrel hv)).set hd' hv
 ·rw [a9a];have:=h.low;split<;>omega
 ·rw [← h.defers];cases o.dst<;>rfl
theorem Now.refine {e:Entry} {N:Nat} {F:Frm} {H:a06} {I:Nat → Prop} {ρ:PMap} {a:Act} {w:World} (h:Now E e N F H I ρ a w) {d:Nat} {v:AV} (hv:VRel I w ρ v (a.tmps.getD d undef)) :
 Now E e N (a3h F (some d) v) H I ρ a w:=
 { h with frm:=⟨h.frm.1,fun s=>by
  rw [a84]
  split
  ·rename_i hs;subst hs;exact hv
  ·exact h.frm.2 s⟩ }
theorem Now.skip {e:Entry} {N:Nat} {F:Frm} {H:a06} {I:Nat → Prop} {ρ:PMap} {a:Act} {w:World} (h:Now E e N F H I ρ a w) {o:Oper} (hd:a6v N o.dst = true) :
 Now E e N (a3h F o.dst (.tuple [])) H I ρ (a.put o.dst undef) w:=
 { h with
  frm:=h.frm.set (by intro s hs;rw [hs] at hd;simpa [a6v,Nat.blt_eq] using hd) (by simp only [VRel,undef];exact ⟨#[],rfl,by simp [VRels]⟩)
  defers:=by rw [← h.defers];cases o.dst<;>rfl }
end
end Go.Ax
/- AxCall: a call on the blocks that its arguments a2j, and back. -/
namespace Go.Ax
structure Ret (E:Env) (I K:Nat → Prop) (ρ:PMap) (m:Nat) (w:World) (I':Nat → Prop) (ρ':PMap) (H':a06) (w':World):Prop where
 imm:∀ c,I c → I' c
 map:∀ b,b < m → ρ' b = ρ b
 ext:Ext I K w w'
 rel:HRel E.G I' K ρ' (a04 H') w'
 nrel:NRel ρ' H'.length
 low:m ≤ H'.length
def b75 (E:Env) (f:FuncId) (run:List AV → a06 → Option (AV × a06)):Prop:=
 ∀ args H v H',run args H = some (v,H') → ∀ (I K:Nat → Prop) (ρ:PMap) (w:World) (cargs:List Value),HRel E.G I K ρ (a04 H) w → NRel ρ H.length → VRels I w ρ args cargs →
  Calls E.P f cargs.toArray w fun en w'=>∃ c I' ρ',en = .returned c ∧ Ret E I K ρ H.length w I' ρ' H' w' ∧ VRel I' w' ρ' v c
def b3u (K:Nat → Prop) (ρ:PMap) (hp:FHeap) (σ:List Nat):Nat → Prop:=fun c=>K c ∨ ∃ b o m,hp b = some o ∧ ρ b = some m ∧ m.blk = c ∧ b ∉ σ
theorem a1d {σ:List Nat} {b j:Nat} (h:σ.idxOf? b = some j):σ[j]? = some b:=by
 rw [List.idxOf?_eq_some_iff] at h
 obtain ⟨hj,hb,_⟩:=h
 rw [z9e hj,hb]
theorem b0p {σ:List Nat} {b:Nat} (h:σ.idxOf? b = none):b ∉ σ:=by
 simpa [List.idxOf?_eq_none_iff] using h
theorem b1n {l:List Nat} (h:a51 l = true):l.Nodup:=by
 induction l with
 | nil=>exact List.nodup_nil
 | cons b r ih=>
  simp only [a51,Bool.and_eq_true,Bool.not_eq_true',← Bool.not_eq_true,a2m] at h
  exact List.nodup_cons.2 ⟨h.1,ih h.2⟩
theorem a32 {σ:List Nat} {b j:Nat} (hn:σ.Nodup) (h:σ[j]? = some b):σ.idxOf? b = some j:=by
 rw [List.idxOf?_eq_some_iff]
 obtain ⟨hj,hb⟩:=List.getElem?_eq_some_iff.1 h
 refine ⟨hj,hb,fun i hi he=>?_⟩
 have:=(List.getElem_inj (h₀:=by omega) (h₁:=hj) hn).1 (he.trans hb.symm)
 omega
section
variable {E:Env} {I K:Nat → Prop} {ρ:PMap} {hp:FHeap} {w:World} {σ:List Nat}
def a5j (hp:FHeap) (σ:List Nat):a06:=σ.map fun b=>(hp b).map (a0m (a50 σ))
theorem b49 (j:Nat):a04 (a5j hp σ) j = (σ[j]?).bind fun b=>(hp b).map (a0m (a50 σ)):=by
 simp only [a04,a5j,List.getElem?_map]
 cases σ[j]?<;>simp
theorem c6t (r:HRel E.G I K ρ hp w) (hn:σ.Nodup):HRel E.G I (b3u K ρ hp σ) (fun j=>(σ[j]?).bind ρ) (a04 (a5j hp σ)) w:=by
 have r1:HRel E.G I K (fun j=>(σ[j]?).bind ρ) (a04 (a5j hp σ)) w:=by
  refine r.rename (π:=a50 σ) ?_ ?_ ?_
  ·intro b j m hj hb
   have:=a1d hj
   simp only [this,Option.bind_some,hb]
  ·intro j o' ho
   rw [b49] at ho
   cases hb:σ[j]? with
   | none=>rw [hb] at ho;simp at ho
   | some b=>
    rw [hb] at ho
    simp only [Option.bind_some] at ho
    cases hpb:hp b with
    | none=>rw [hpb] at ho;simp at ho
    | some o=>
     rw [hpb] at ho
     simp only [Option.map_some,Option.some.injEq] at ho
     exact ⟨b,o,hpb,a32 hn hb,ho.symm⟩
  ·intro j m hj
   cases hb:σ[j]? with
   | none=>rw [hb] at hj;simp at hj
   | some b=>rw [hb] at hj;exact r.dom b m hj
 refine ⟨?_,r1.inj,r1.dom,r1.imm,?_,?_,r1.glob⟩
 ·intro j o' ho
  obtain ⟨m,h1,h2,h3,h4⟩:=r1.live j o' ho
  refine ⟨m,h1,h2,?_,h4⟩
  rintro (hk|⟨b,o,m',hb,hm',he,hns⟩)
  ·exact h3 hk
  ·rw [b49] at ho
   cases hσ:σ[j]? with
   | none=>rw [hσ] at ho;simp at ho
   | some b'=>
    rw [hσ] at ho h1
    simp only [Option.bind_some] at ho h1
    have hl:(hp b').isSome:=by cases h:hp b' with|none=>rw [h] at ho;simp at ho|some _=>rfl
    have:=r.inj b b' m' m (by simp [hb]) hl hm' h1 he
    subst this
    exact hns (List.mem_of_getElem? hσ)
 ·rintro c (hk|⟨b,o,m',hb,hm',rfl,_⟩)
  ·exact r.kept c hk
  ·exact r.dom b m' hm'
 ·rintro c hc (hk|⟨b,o,m',hb,hm',rfl,_⟩)
  ·exact r.apart c hc hk
  ·obtain ⟨m'',h1,h2,_⟩:=r.live b o hb
   obtain rfl:m' = m'':=z9o (hm'.symm.trans h1)
   exact h2 hc
theorem b6v {g:FuncId} {run:List AV → a06 → Option (AV × a06)} (hrun:b75 E g run) {args:List AV} {cargs:List Value} {v1:AV} {H1:a06}
 (hcall:run (args.map (ren (a50 σ))) (a5j hp σ) = some (v1,H1)) (r:HRel E.G I K ρ hp w) (hn:σ.Nodup) (ha:VRels I w ρ args cargs) :
 Calls E.P g cargs.toArray w fun en w'=>∃ c I1 ρ1,en = .returned c ∧ Ret E I (b3u K ρ hp σ) (fun j=>(σ[j]?).bind ρ) σ.length w I1 ρ1 H1 w' ∧ VRel I1 w' ρ1 v1 c:=by
 have h:=hrun _ _ _ _ hcall I (b3u K ρ hp σ) (fun j=>(σ[j]?).bind ρ) w cargs (c6t r hn)
  (by intro j hj;simp only [a5j,List.length_map] at hj;simp [List.getElem?_eq_none hj])
  (by
   rw [← a72]
   exact VRels.ren (fun b j m hj hb=>by have:=a1d hj;simp only [this,Option.bind_some,hb]) args ha)
 simpa [a5j] using h
theorem b6x {n:Nat} {I1:Nat → Prop} {ρ1:PMap} {H1:a06} {w':World} (r:HRel E.G I K ρ hp w) (_:σ.Nodup)
 (hret:Ret E I (b3u K ρ hp σ) (fun j=>(σ[j]?).bind ρ) σ.length w I1 ρ1 H1 w') {ρ2:PMap} {h2:FHeap}
 (hold:∀ b m,ρ b = some m → ρ2 b = some m) (hback:∀ j b m,a18 σ n j = some b → ρ1 j = some m → ρ2 b = some m)
 (hdom:∀ b m,ρ2 b = some m → ρ b = some m ∨ ∃ j,ρ1 j = some m)
 (hh:∀ b o,h2 b = some o → (b ∉ σ ∧ hp b = some o) ∨ ∃ j o1,a18 σ n j = some b ∧ a04 H1 j = some o1 ∧ o = a0m (a18 σ n) o1) :
 HRel E.G I1 K ρ2 h2 w':=by
 have hsz:=hret.ext.size
 have hIw:∀ c,I c → w'.heap[c]? = w.heap[c]?:=fun c hc=>hret.ext.keep c (.inl hc)
 have r1:=hret.rel
 have live2:∀ b o,h2 b = some o → ∃ m,ρ2 b = some m ∧ ¬ I1 m.blk ∧ ¬ K m.blk ∧ ORel I1 w' ρ2 m o ∧ ((b ∉ σ ∧ hp b = some o ∧ ρ b = some m) ∨ ∃ j,a18 σ n j = some b ∧ (a04 H1 j).isSome ∧ ρ1 j = some m):=by
  intro b o hb
  rcases hh b o hb with ⟨hns,hpb⟩|⟨j,o1,hj,ho1,rfl⟩
  ·obtain ⟨m,h1,h3,h4,h5⟩:=r.live b o hpb
   have hkb:b3u K ρ hp σ m.blk:=.inr ⟨b,o,m,hpb,h1,rfl,hns⟩
   refine ⟨m,hold b m h1,fun hc=>r1.apart _ hc hkb,h4,?_,.inl ⟨hns,hpb,h1⟩⟩
   exact ORel.mono o hret.imm hIw hold (hret.ext.keep _ (.inr hkb)) h5
  ·obtain ⟨m,h1,h3,h4,h5⟩:=r1.live j o1 ho1
   refine ⟨m,hback j b m hj h1,h3,fun hk=>h4 (.inl hk),ORel.ren (fun j b m hj h=>hback j b m hj h) o1 h5,.inr ⟨j,hj,by simp [ho1],h1⟩⟩
 refine ⟨?_,?_,?_,r1.imm,?_,?_,r1.glob⟩
 ·intro b o hb
  obtain ⟨m,h1,h3,h4,h5,_⟩:=live2 b o hb
  exact ⟨m,h1,h3,h4,h5⟩
 ·intro b b' m m' hb hb' hm hm' he
  obtain ⟨o,ho⟩:=Option.isSome_iff_exists.1 hb
  obtain ⟨o',ho'⟩:=Option.isSome_iff_exists.1 hb'
  obtain ⟨q,hq,_,_,_,hc⟩:=live2 b o ho
  obtain ⟨q',hq',_,_,_,hc'⟩:=live2 b' o' ho'
  rw [hm] at hq;cases hq
  rw [hm'] at hq';cases hq'
  rcases hc with ⟨hns,hpb,h1⟩|⟨j,hj,hl,h1⟩<;>rcases hc' with ⟨hns',hpb',h1'⟩|⟨j',hj',hl',h1'⟩
  ·exact r.inj b b' m m' (by simp [hpb]) (by simp [hpb']) h1 h1' he
  ·exfalso
   obtain ⟨o1,ho1⟩:=Option.isSome_iff_exists.1 hl'
   obtain ⟨q,hq,_,hk,_⟩:=r1.live j' o1 ho1
   rw [h1'] at hq;cases hq
   exact hk (.inr ⟨b,o,m,hpb,h1,he,hns⟩)
  ·exfalso
   obtain ⟨o1,ho1⟩:=Option.isSome_iff_exists.1 hl
   obtain ⟨q,hq,_,hk,_⟩:=r1.live j o1 ho1
   rw [h1] at hq;cases hq
   exact hk (.inr ⟨b',o',m',hpb',h1',he.symm,hns'⟩)
  ·have:=r1.inj j j' m m' hl hl' h1 h1' he
   subst this
   rw [hj] at hj'
   exact z9o hj'
 ·intro b m hb
  rcases hdom b m hb with h|⟨j,h⟩
  ·have:=r.dom b m h;omega
  ·exact r1.dom j m h
 ·intro c hc;have:=r.kept c hc;omega
 ·intro c hc hk;exact r1.apart c hc (.inl hk)
end
end Go.Ax
/- AxCall2: a call in sequence; the concrete step of a call. -/
namespace Go.Ax
section
variable {E:Env} {I K:Nat → Prop} {ρ:PMap} {w:World}
theorem a75 (σ:List Nat) (n:Nat) (H1:a06):∀ (b0:Nat) (H:a06) (i:Nat),
 (a11 σ n H1 b0 H)[i]? = (H[i]?).map fun o=>match σ.idxOf? (b0 + i) with
  | some j=>(a04 H1 j).map (a0m (a18 σ n))
  | none=>o
 | b0,[],i=>by simp [a11]
 | b0,o :: r,0=>by simp [a11]<;>rfl
 | b0,o :: r,i + 1=>by
  simp only [a11,List.getElem?_cons_succ]
  rw [a75 σ n H1 (b0 + 1) r i,show b0 + 1 + i = b0 + (i + 1) by omega]
theorem a17 (σ:List Nat) (n:Nat) (H1:a06):∀ (b0:Nat) (H:a06),(a11 σ n H1 b0 H).length = H.length
 | b0,[]=>by simp [a11]
 | b0,o :: r=>by simp [a11,a17 σ n H1 (b0 + 1) r]
theorem c4d {g:FuncId} {run:List AV → a06 → Option (AV × a06)} (hrun:b75 E g run) {args:List AV} {cargs:List Value} {H H':a06} {v:AV} {σ:List Nat}
 (hcall:a2t run args H = some (v,H',σ)) (r:HRel E.G I K ρ (a04 H) w) (hn:NRel ρ H.length) (ha:VRels I w ρ args cargs) :
 Calls E.P g cargs.toArray w fun en w'=>∃ c I' ρ',en = .returned c ∧ Ret E I K ρ H.length w I' ρ' H' w' ∧ VRel I' w' ρ' v c:=by
 unfold a2t at hcall
 simp only at hcall
 generalize hσ:a2j H a4o (a0d args) [] = σ' at hcall
 rw [cond_eq_ite] at hcall
 split at hcall
 case isFalse=>cases hcall
 rename_i hc
 simp only [Bool.and_eq_true,List.all_eq_true,Nat.blt_eq] at hc
 obtain ⟨hnd,hlt⟩:=hc
 have hnd:=b1n hnd
 split at hcall
 case h_2=>cases hcall
 rename_i v1 H1 hr
 simp only [Option.some.injEq,Prod.mk.injEq] at hcall
 obtain ⟨rfl,rfl,rfl⟩:=hcall
 have hr':run (args.map (ren (a50 σ'))) (a5j (a04 H) σ') = some (v1,H1):=hr
 refine (b6v hrun hr' r hnd ha).mono ?_
 rintro en w' ⟨c,I1,ρ1,rfl,hret,hv⟩
 have hback:∀ j b m,a18 σ' H.length j = some b → ρ1 j = some m → (if b < H.length then ρ b else ρ1 (σ'.length + (b - H.length))) = some m:=by
  intro j b m hj hm
  simp only [a18] at hj
  rw [cond_eq_ite] at hj
  split at hj
  ·rename_i hjl
   have hjl:j < σ'.length:=by simpa [Nat.blt_eq] using hjl
   have hb:=hlt b (List.mem_of_getElem? hj)
   rw [if_pos hb]
   have:=hret.map j hjl
   rw [hm,hj] at this
   exact this.symm
  ·rename_i hjl
   have hjl:σ'.length ≤ j:=by simpa [Nat.blt_eq] using hjl
   cases hj
   rw [if_neg (by omega),show σ'.length + (H.length + (j - σ'.length) - H.length) = j by omega]
   exact hm
 have hold:∀ b m,ρ b = some m → (if b < H.length then ρ b else ρ1 (σ'.length + (b - H.length))) = some m:=by
  intro b m hb
  have:b < H.length:=by
   rcases Nat.lt_or_ge b H.length with h|h
   ·exact h
   ·rw [hn b h] at hb;cases hb
  rw [if_pos this];exact hb
 refine ⟨c,I1,fun b=>if b < H.length then ρ b else ρ1 (σ'.length + (b - H.length)),rfl,⟨hret.imm,fun b hb=>by rw [if_pos hb],hret.ext.keepLess (fun c hc=>.inl hc),?_,?_,?_⟩,?_⟩
 ·refine b6x r hnd hret hold hback ?_ ?_
  ·intro b m hb
   split at hb
   ·exact .inl hb
   ·exact .inr ⟨_,hb⟩
  ·intro b o hb
   simp only [a04] at hb
   rcases Nat.lt_or_ge b H.length with hbl|hbl
   ·rw [List.getElem?_append_left (by rw [a17];exact hbl),a75] at hb
    simp only [Nat.zero_add] at hb
    rw [z9e hbl] at hb
    simp only [Option.map_some,Option.join_some] at hb
    split at hb
    ·rename_i j hj
     right
     have hσj:=a1d hj
     have hjl:=(List.getElem?_eq_some_iff.1 hσj).1
     obtain ⟨o1,ho1,rfl⟩:=a09 hb
     refine ⟨j,o1,?_,ho1,rfl⟩
     simp only [a18]
     rw [cond_eq_ite,if_pos (by simpa [Nat.blt_eq] using hjl)]
     exact hσj
    ·rename_i hj
     left
     exact ⟨b0p hj,by simp only [a04];rw [z9e hbl];simpa using hb⟩
   ·right
    rw [List.getElem?_append_right (by rw [a17];exact hbl),a17,List.getElem?_map,List.getElem?_drop] at hb
    refine ⟨σ'.length + (b - H.length),?_⟩
    cases hx:H1[σ'.length + (b - H.length)]? with
    | none=>rw [hx] at hb;simp at hb
    | some ob=>
     rw [hx] at hb
     simp only [Option.map_some,Option.join_some] at hb
     obtain ⟨o1,rfl,rfl⟩:=a09 hb
     refine ⟨o1,?_,by simp [a04,hx],rfl⟩
     simp only [a18]
     rw [cond_eq_ite,if_neg (by simp [Nat.blt_eq])]
     congr 1;omega
 ·intro b hb
  simp only [List.length_append,a17,List.length_map,List.length_drop] at hb
  have hlow:=hret.low
  dsimp only
  rw [if_neg (by omega)]
  exact hret.nrel _ (by omega)
 ·simp [a17]
 ·exact VRel.ren (fun j b m hj hm=>hback j b m hj hm) v1 hv
theorem b00 {a:Act} {o:Oper} {f:Operand} {args:Array Operand} {ats:Array TypeId} (ho:o.op = .call ⟨.value f,args,ats⟩) {g:FuncId} {fs cs:Array Value} (hf:a.eval f = .func (.func g) fs cs) :
 (execOp a.eval o).run E.P w = (callFunc g (fs ++ args.map a.eval ++ cs)).run E.P w:=by
 obtain ⟨dst,op,type,pos,after,guard⟩:=o
 simp only at ho
 subst ho
 simp [execOp,resolve,hf,Deferred.ofValue,invoke]
theorem a6a (ok:EnvOk E) {g:FuncId} (hg:(E.fn g).isSome = true) (args:Array Value):(callFunc g args).run E.P w = .ok (.enter g args) w:=by
 obtain ⟨i,hi⟩:=Option.isSome_iff_exists.1 hg
 obtain ⟨fn,h1,h2,_,_,h5⟩:=ok.fn g i hi
 have h6:¬ fn.name = "runtime.NumGoroutine" := by simpa using h5
 simp [callFunc,h1,h2,h6]
theorem b1a (ok:EnvOk E) {g:FuncId} (hg:E.ext g = true) {args:List AV} {cargs:List Value} {v:AV} (hv:e7x args = some v) (ha:VRels I w ρ args cargs) :
 ∃ c,(callFunc g cargs.toArray).run E.P w = .ok (.value c) w ∧ VRel I w ρ v c:=by
 obtain ⟨fn,h1,h2,h3,h4,h5⟩:=ok.ext g hg
 unfold e7x at hv
 split at hv
 case h_2=>cases hv
 rename_i s cc
 cases hv
 simp only [VRels] at ha
 obtain ⟨c1,_,rfl,hs,c2,_,rfl,hb,rfl⟩:=ha
 simp only [VRel] at hs hb
 obtain ⟨t,rfl,ht⟩:=hs
 subst hb
 refine ⟨.int .i64 (Lib.indexByte s cc.toNat.toUInt8),?_,by simp [VRel]⟩
 have:=Lib.run_indexByteString (P:=E.P) t cc w
 rw [ht] at this
 have h6:¬ fn.name = "runtime.NumGoroutine" := by simpa using h3
 simp [callFunc,h1,h2,h6,h4,h5,this]
end
end Go.Ax
/- AxSeq: operations in a row that draw no order. -/
namespace Go.Ax
section
variable {E:Env}
theorem Now.call {e:Entry} {N:Nat} {F:Frm} {H H':a06} {I I':Nat → Prop} {ρ ρ':PMap} {a:Act} {w w':World} (h:Now E e N F H I ρ a w) (r:Ret E I e.K ρ H.length w I' ρ' H' w')
 {d:Option Tmp} {v:AV} {c:Value} (hd:a6v N d = true) (hv:VRel I' w' ρ' v c):Now E e N (a3h F d v) H' I' ρ' (a.put d c) w':=by
 have hρ:∀ b m,ρ b = some m → ρ' b = some m:=by
  intro b m hb
  have:b < H.length:=by
   rcases Nat.lt_or_ge b H.length with h'|h'
   ·exact h'
   ·rw [h.nrel b h'] at hb;cases hb
  rw [r.map b this];exact hb
 refine ⟨fun c hc=>r.imm c (h.imm c hc),fun b hb=>?_,h.ext.trans h.imm r.ext,r.rel,r.nrel,?_,?_,?_⟩
 ·rw [r.map b (by have:=h.low;omega)];exact h.map b hb
 ·exact (FRel.mono h.frm (fun v c hv=>VRel.mono r.imm (fun c hc=>r.ext.keep c (.inl hc)) v hρ hv)).set (by intro s hs;rw [hs] at hd;simpa [a6v,Nat.blt_eq] using hd) hv
 ·have:=h.low;have:=r.low;omega
 ·rw [← h.defers];cases d<;>rfl
def a3c (E:Env) (call:FuncId → List AV → a06 → Option (AV × a06)):Prop:=∀ g,b75 E g (call g)
theorem c57 (ok:EnvOk E) {call:FuncId → List AV → a06 → Option (AV × a06)} (hcall:a3c E call) {draw:Bool} {e:Entry} {N:Nat} {F:Frm} {H H':a06} {I:Nat → Prop} {ρ:PMap} {a:Act} {w:World}
 (h:Now E e N F H I ρ a w) {o:Oper} {v:AV} {l:LogE} (hs:a0z E draw call F H o.op = some (v,H',l)) (hd:a6v N o.dst = true) {K:Act → World → Prop} {Q:Exit → Act → World → Prop}
 (hK:∀ I' ρ' a' w',Now E e N (a3h F o.dst v) H' I' ρ' a' w' → K a' w'):o.wp E.P a w K Q:=by
 unfold Oper.wp
 unfold a0z at hs
 split at hs
 ·rename_i f args ats hop
  split at hs
  case h_2=>cases hs
  rename_i v' H1 σ hcv
  cases hs
  unfold a0e at hcv
  split at hcv
  case h_2=>cases hcv
  rename_i g fs cs hfv
  have hf:=c1j h.rel h.frm f
  rw [hfv] at hf
  simp only [VRel] at hf
  obtain ⟨fs',cs',hfe,hfs,hcs⟩:=hf
  have hargs:VRels I w ρ (fs ++ args.toList.map (opv E F) ++ cs) (fs' ++ args.map a.eval ++ cs').toList:=by
   simp only [Array.toList_append,Array.toList_map]
   exact VRels.append (VRels.append hfs (a6f (c1j h.rel h.frm) args.toList)) hcs
  rw [b00 hop hfe]
  rw [cond_eq_ite] at hcv
  split at hcv
  ·rename_i hext
   split at hcv
   case h_2=>cases hcv
   rename_i v'' hv''
   cases hcv
   obtain ⟨c,hrun,hvc⟩:=b1a (E:=E) (w:=w) ok hext hv'' hargs
   have harr:(fs' ++ args.map a.eval ++ cs').toList.toArray = fs' ++ args.map a.eval ++ cs':=by apply Array.ext';simp
   rw [harr] at hrun
   rw [hrun,Oper.upon_value]
   exact hK I ρ _ _ (h.call ⟨fun _ h=>h,fun _ _=>rfl,Ext.refl _ _ _,h.rel,h.nrel,Nat.le_refl _⟩ hd hvc)
  ·rw [cond_eq_ite] at hcv
   split at hcv
   case isFalse=>cases hcv
   rename_i hg
   split at hcv
   case h_2=>cases hcv
   rename_i v'' H2 σ2 hloc
   rw [cond_eq_ite] at hcv
   split at hcv
   case isTrue=>cases hcv
   cases hcv
   rw [a6a ok hg,Oper.upon_enter]
   have hc:=c4d (hcall g) hloc h.rel h.nrel hargs
   have harr:(fs' ++ args.map a.eval ++ cs').toList.toArray = fs' ++ args.map a.eval ++ cs':=by apply Array.ext';simp
   rw [harr] at hc
   refine hc.mono ?_
   rintro en w' ⟨c,I',ρ',rfl,hret,hvc⟩
   exact hK I' ρ' _ _ (h.call hret hd hvc)
 ·split at hs
  case h_2=>cases hs
  rename_i v' eff ha
  rw [cond_eq_ite] at hs
  split at hs
  case isFalse=>cases hs
  cases hs
  obtain ⟨x,w',c,ρ',hrun,hx,hnow⟩:=h.op ok ha hd
  rw [hrun]
  rcases hx with rfl|⟨rfl,rfl⟩
  ·rw [Oper.upon_value];exact hK I ρ' _ _ hnow
  ·rw [Oper.upon_skip];exact hK I ρ' _ _ hnow
theorem c2t {P:Program} {ops:Array Oper} {Q:Exit → Act → World → Prop} {i:Nat} {rest:List Nat} {a:Act} {w:World} {o:Oper} (ho:ops[i]? = some o)
 (hw:Region.wanted o (yielded ops a.tmps) = true) (h:o.wp P a w (wpOps P ops Q rest) Q):wpOps P ops Q (i :: rest) a w:=by
 simp only [wpOps,ho,hw,if_true];exact .inl h
theorem c2s {P:Program} {ops:Array Oper} {Q:Exit → Act → World → Prop} {i:Nat} {rest:List Nat} {a:Act} {w:World} {o:Oper} (ho:ops[i]? = some o)
 (hw:Region.wanted o (yielded ops a.tmps) = false) (h:wpOps P ops Q rest (a.put o.dst undef) w):wpOps P ops Q (i :: rest) a w:=by
 simp only [wpOps,ho,hw];simpa using h
theorem c2r {e:Entry} {N:Nat} {F:Frm} {H:a06} {I:Nat → Prop} {ρ:PMap} {a:Act} {w:World} (h:Now E e N F H I ρ a w) {ops:Array Oper} {j d:Nat} (hg:a2o ops.toList j = some d) :
 (∀ b,a25 F d = .bool b → yielded ops a.tmps j = some b) ∧ (a25 F d = .tuple [] → yielded ops a.tmps j = none):=by
 have hd:(ops[j]?).bind (·.dst) = some d:=by simpa [a2o] using hg
 have hv:=h.frm.2 d
 have hget:∀ c,a.tmps.getD d undef = c → c ≠ undef → a.tmps[d]? = some c:=by
  intro c hc hne
  rw [Array.getD_eq_getD_getElem?] at hc
  cases hx:a.tmps[d]? with
  | none=>rw [hx] at hc;exact absurd hc.symm hne
  | some x=>rw [hx] at hc;simpa using hc
 refine ⟨fun b hb=>?_,fun hb=>?_⟩
 ·rw [hb] at hv
  simp only [VRel] at hv
  have:=hget _ hv (by simp [undef])
  simp [yielded,hd,this]
 ·rw [hb] at hv
  simp only [VRel] at hv
  obtain ⟨cs,hc,hcs⟩:=hv
  unfold yielded
  rw [hd]
  simp only [Option.bind_some]
  rw [Array.getD_eq_getD_getElem?] at hc
  cases hx:a.tmps[d]? with
  | none=>rfl
  | some x=>
   rw [hx] at hc
   simp only [Option.getD_some] at hc
   rw [hc]
theorem b4d (ok:EnvOk E) {call:FuncId → List AV → a06 → Option (AV × a06)} (hcall:a3c E call) {e:Entry} {N:Nat} {ops:Array Oper} {R:Type} {k:Frm → a06 → Option R} {r:R}
 {Q:Exit → Act → World → Prop} (hQ:∀ F H I ρ a w,Now E e N F H I ρ a w → k F H = some r → Q .normal a w) :
 ∀ (rest:List Oper) (s:Nat) (log:List LogE) (F:Frm) (H:a06) (I:Nat → Prop) (ρ:PMap) (a:Act) (w:World),rest = ops.toList.drop s → Now E e N F H I ρ a w →
  a2d E false N call ops.toList rest log F H k = some r → wpOps E.P ops Q (List.range' s rest.length) a w
 | [],s,log,F,H,I,ρ,a,w,_,hnow,hrun=>by
  simp only [a2d,Bool.not_false,Bool.true_or,cond_true] at hrun
  simp only [List.length_nil,List.range'_zero,wpOps]
  exact hQ F H I ρ a w hnow hrun
 | o :: rest,s,log,F,H,I,ρ,a,w,hrest,hnow,hrun=>by
  have ho:ops[s]? = some o:=by
   have:(ops.toList.drop s)[0]? = some o:=by rw [← hrest];rfl
   rw [List.getElem?_drop] at this
   simpa using this
  have hrest':rest = ops.toList.drop (s + 1):=by
   have:(ops.toList.drop s).drop 1 = rest:=by rw [← hrest];rfl
   rw [List.drop_drop] at this
   exact this.symm
  rw [List.length_cons,List.range'_succ]
  unfold a2d at hrun
  rw [cond_eq_ite] at hrun
  split at hrun
  case isFalse=>cases hrun
  rename_i hd
  have ih:=fun log F H I ρ a w hnow hrun=>b4d ok hcall hQ rest (s + 1) log F H I ρ a w hrest' hnow hrun
  have exec:∀ F0,Now E e N F0 H I ρ a w → (match a0z E false call F0 H o.op with
   | some (v,H',l)=>a2d E false N call ops.toList rest (l :: log) (a3h F0 o.dst v) H' k
   | none=>none) = some r → Region.wanted o (yielded ops a.tmps) = true → wpOps E.P ops Q (s :: List.range' (s + 1) rest.length) a w:=by
   intro F0 hn0 hr hw
   split at hr
   case h_2=>cases hr
   rename_i v H' l hs
   exact c2t ho hw (c57 ok hcall hn0 hs hd (fun I' ρ' a' w' hn'=>ih _ _ _ I' ρ' a' w' hn' hr))
  have skip:∀ F0 log',Now E e N F0 H I ρ a w → a2d E false N call ops.toList rest log' (a3h F0 o.dst (.tuple [])) H k = some r → Region.wanted o (yielded ops a.tmps) = false →
   wpOps E.P ops Q (s :: List.range' (s + 1) rest.length) a w:=by
   intro F0 log' hn0 hr hw
   exact c2s ho hw (ih _ _ _ I ρ _ w (hn0.skip hd) hr)
  split at hrun
  ·rename_i hg
   exact exec F hnow hrun (by simp [Region.wanted,hg])
  ·rename_i j want hg
   split at hrun
   case h_1=>cases hrun
   rename_i d hgs
   obtain ⟨hy1,hy2⟩:=c2r hnow hgs
   split at hrun
   ·rename_i b hb
    have hyb:=hy1 b hb
    have hvb:=hnow.frm.2 d
    rw [hb] at hvb
    have hw:Region.wanted o (yielded ops a.tmps) = (b == want):=by simp [Region.wanted,hg,hyb]
    cases b
    ·simp only [cond_false] at hrun
     have hn0:=hnow.refine (d:=d) (v:=.bool false) hvb
     cases want
     ·simp only [cond_false] at hrun
      exact exec _ hn0 hrun (by rw [hw];rfl)
     ·simp only [cond_true] at hrun
      exact skip _ _ hn0 hrun (by rw [hw];rfl)
    ·simp only [cond_true] at hrun
     have hn0:=hnow.refine (d:=d) (v:=.bool true) hvb
     cases want
     ·simp only [cond_false] at hrun
      exact skip _ _ hn0 hrun (by rw [hw];rfl)
     ·simp only [cond_true] at hrun
      exact exec _ hn0 hrun (by rw [hw];rfl)
   ·rename_i hb
    have hyb:=hy2 hb
    exact skip F _ hnow hrun (by simp [Region.wanted,hg,hyb])
   ·cases hrun
end
end Go.Ax
/- AxGc: what may be forgotten: slots behind a region, blocks at a loop's head. -/
namespace Go.Ax
section
variable {E:Env} {e:Entry} {N:Nat} {F:Frm} {H:a06} {I:Nat → Prop} {ρ:PMap} {a:Act} {w:World}
theorem b8c (F:Frm):∀ (keep:List Nat) (s:Nat),a25 (a1j keep F) s = if keep.contains s then a25 F s else .junk
 | [],s=>by simp [a1j,a25]
 | t :: keep,s=>by
  have ih:=b8c F keep s
  simp only [a1j] at ih ⊢
  simp only [List.map_cons,a25,c1m,ih]
  by_cases hts:t = s
  ·subst hts;simp
  ·have:(s == t) = false:=by simpa using fun h=>hts h.symm
   have hc:(t :: keep).contains s = keep.contains s:=by rw [List.contains_cons,this,Bool.false_or]
   rw [hc,beq_eq_false_iff_ne.2 hts];rfl
theorem Now.keep (h:Now E e N F H I ρ a w) (keep:List Nat):Now E e N (a1j keep F) H I ρ a w:=
 { h with frm:=⟨h.frm.1,fun s=>by
  rw [b8c]
  split
  ·exact h.frm.2 s
  ·simp [VRel]⟩ }
theorem c1x (π:Nat → Option Nat):∀ (F:Frm) (s:Nat),a25 (b9d π F) s = ren π (a25 F s)
 | [],s=>by simp [b9d,a25,ren]
 | (t,v) :: F,s=>by
  have ih:=c1x π F s
  simp only [b9d] at ih ⊢
  simp only [List.map_cons,a25,c1m,ih]
  cases h:(t == s)<;>simp
theorem Now.gc (h:Now E e N F H I ρ a w) {σ:List Nat} (hn:σ.Nodup) (hlow:∀ b ∈ σ,e.m ≤ b) :
 ∃ ρ',Now E e N (b9d (b6d e.m σ) F) (gcH e.m σ H) I ρ' a w:=by
 have hlen:(gcH e.m σ H).length = e.m + σ.length:=by
  have:=h.low
  simp [gcH,a1n];omega
 have hπ:∀ b b' m,b6d e.m σ b = some b' → ρ b = some m → (if b' < e.m then ρ b' else (σ[b' - e.m]?).bind ρ) = some m:=by
  intro b b' m hp hb
  simp only [b6d] at hp
  rw [cond_eq_ite] at hp
  split at hp
  ·rename_i hlt
   cases hp
   rw [if_pos (by simpa [Nat.blt_eq] using hlt)];exact hb
  ·obtain ⟨j,hj,rfl⟩:=a09 hp
   rw [if_neg (by omega),Nat.add_sub_cancel_left,a1d hj]
   exact hb
 refine ⟨fun b=>if b < e.m then ρ b else (σ[b - e.m]?).bind ρ,h.imm,fun b hb=>?_,h.ext,?_,?_,?_,?_,h.defers⟩
 ·show (if b < e.m then ρ b else _) = _
  rw [if_pos hb];exact h.map b hb
 ·refine h.rel.rename (π:=b6d e.m σ) hπ ?_ ?_
  ·intro b' o' ho
   simp only [a04,gcH] at ho
   have hml:(H.take e.m).length = e.m:=by have:=h.low;simp;omega
   rcases Nat.lt_or_ge b' e.m with hb|hb
   ·rw [List.getElem?_append_left (by rw [List.length_map,hml];exact hb),List.getElem?_map,List.getElem?_take,if_pos hb] at ho
    cases hx:H[b']? with
    | none=>rw [hx] at ho;simp at ho
    | some ob=>
     rw [hx] at ho
     simp only [Option.map_some,Option.join_some] at ho
     obtain ⟨o,rfl,rfl⟩:=a09 ho
     refine ⟨b',o,by simp [a04,hx],?_,rfl⟩
     simp only [b6d]
     rw [cond_eq_ite,if_pos (by simpa [Nat.blt_eq] using hb)]
   ·rw [List.getElem?_append_right (by rw [List.length_map,hml];exact hb)] at ho
    simp only [List.length_map,hml,a1n,List.getElem?_map] at ho
    cases hx:σ[b' - e.m]? with
    | none=>rw [hx] at ho;simp at ho
    | some b=>
     rw [hx] at ho
     simp only [Option.map_some,Option.join_some] at ho
     obtain ⟨o,ho1,rfl⟩:=a09 ho
     refine ⟨b,o,ho1,?_,rfl⟩
     have hbl:=hlow b (List.mem_of_getElem? hx)
     simp only [b6d]
     rw [cond_eq_ite,if_neg (by simpa [Nat.blt_eq] using hbl),a32 hn hx]
     simp only [Option.map_some,Option.some.injEq];omega
  ·intro b m hb
   split at hb
   ·exact h.rel.dom b m hb
   ·cases hx:σ[b - e.m]? with
    | none=>rw [hx] at hb;simp at hb
    | some b'=>rw [hx] at hb;exact h.rel.dom b' m hb
 ·intro b hb
  rw [hlen] at hb
  show (if b < e.m then ρ b else _) = _
  rw [if_neg (by omega),List.getElem?_eq_none (by omega)];rfl
 ·refine ⟨h.frm.1,fun s=>?_⟩
  rw [c1x]
  exact VRel.ren hπ _ (h.frm.2 s)
 ·rw [hlen];omega
theorem d78 {H:a06} {m b:Nat} {o':AObj} (hb:a04 (c0c m H) b = some o'):∃ o,b < m ∧ a04 H b = some o ∧ o' = a0m (a19 m) o:=by
 simp only [a04,c0c,List.getElem?_map,List.getElem?_take] at hb
 split at hb
 case isFalse=>simp at hb
 rename_i hlt
 cases hx:H[b]? with
 | none=>rw [hx] at hb;simp at hb
 | some ob=>
  rw [hx] at hb
  simp only [Option.map_some,Option.join_some] at hb
  obtain ⟨o,rfl,rfl⟩:=a09 hb
  exact ⟨o,hlt,by simp [a04,hx],rfl⟩
theorem c1y (m:Nat) (H:a06):∀ (F:Frm) (s:Nat),a25 (c0d m H F) s = .junk ∨ a25 (c0d m H F) s = d9m m H (a25 F s)
 | [],s=>.inl (by simp [c0d,a25])
 | (t,v) :: F,s=>by
  have ih:=c1y m H F s
  simp only [c0d] at ih ⊢
  simp only [List.map_cons,a25,c1m]
  cases h:(t == s)
  ·simpa using ih
  ·right;simp
theorem Now.frz (h:Now E e N F H I ρ a w):∃ I' ρ',Now E e N (c0d e.m H F) (c0c e.m H) I' ρ' a w:=by
 have hlen:(c0c e.m H).length = e.m:=by have:=h.low;simp [c0c];omega
 have hlow:∀ b o',a04 (c0c e.m H) b = some o' → ∃ o,b < e.m ∧ a04 H b = some o ∧ o' = a0m (a19 e.m) o:=fun b o' hb=>d78 hb
 refine ⟨a8y I ρ (a04 H) e.m,ρ.below e.m true,fun c hc=>.inl (h.imm c hc),fun b hb=>?_,h.ext,?_,?_,⟨h.frm.1,fun s=>?_⟩,by rw [hlen];exact Nat.le_refl _,h.defers⟩
 ·rw [← h.map b hb];simp [PMap.below,hb]
 ·exact (a9x h.rel (v:=.junk) (v':=.junk) (c:=.nilFunc) (n:=12) (m:=e.m) rfl (by simp [VRel]) hlow).1
 ·intro b hb
  rw [hlen] at hb
  simp only [PMap.below]
  rw [if_neg (by omega)]
 ·rcases c1y e.m H F s with h1|h1
  ·rw [h1];simp [VRel]
  ·rw [h1]
   simp only [d9m]
   cases hv:a42 e.m true (a86 (a04 H) e.m 12) (a25 F s) with
   | none=>simp [VRel]
   | some v'=>exact (a9x h.rel hv (h.frm.2 s) hlow).2
theorem Now.drew (h:Now E e N F H I ρ a w):Now E e N F H I ρ a { w with drawn:=w.drawn + 1 }:=by
 have s:SameMem w { w with drawn:=w.drawn + 1 }:=⟨rfl,rfl,rfl,rfl⟩
 exact ⟨h.imm,h.map,h.ext.trans h.imm (s.ext I e.K),h.rel.same s,h.nrel,FRel.mono h.frm (fun v c hv=>VRel.mono (w:=w) (w':={ w with drawn:=w.drawn + 1 }) (fun _ h=>h) (fun _ _=>rfl) v (fun _ _ h=>h) hv),h.low,h.defers⟩
end
/-! ### a loop that is counted -/
theorem c4w {P:Program} {c:Code} {Q:Exit → Act → World → Prop} (Inv:Nat → Act → World → Prop)
 (round:∀ n a w,Inv (n + 1) a w → c.wp P (Exit.then (Inv n) Q) a w) (zero:∀ a w,¬ Inv 0 a w) {n:Nat} {a:Act} {w:World} (h:Inv n a w):(Code.loop c).wp P Q a w:=by
 intro b k cs
 have key:∀ n a w,Inv n a w → ∃ e a' w',Q e a' w' ∧ Arrives P (lone (b.at a (.code c :: .inLoop c :: k)) cs w) b k cs e a' w':=by
  intro n
  induction n with
  | zero=>intro a w h;exact absurd h (zero a w)
  | succ n ih=>
   intro a w hI
   obtain ⟨e,a₁,w₁,hq,harr⟩:=round n a w hI b (.inLoop c :: k) cs
   cases e with
   | normal=>
    obtain ⟨e₂,a₂,w₂,hq₂,harr₂⟩:=ih a₁ w₁ hq
    exact ⟨e₂,a₂,w₂,hq₂,.of_steps (Steps.trans harr (.one step_inLoop)) harr₂⟩
   | exit id=>exact ⟨_,a₁,w₁,hq,.pass (x:=.inLoop c) rfl (fun _ _=>.inl (by simp)) harr⟩
   | goto l=>exact ⟨_,a₁,w₁,hq,.pass (x:=.inLoop c) rfl (fun _ _=>.inl (by simp)) harr⟩
   | ret=>exact ⟨_,a₁,w₁,hq,.pass (x:=.inLoop c) rfl (fun _ _=>.inl (by simp)) harr⟩
   | panic ch=>exact ⟨_,a₁,w₁,hq,.pass (x:=.inLoop c) rfl (fun _ _=>.inl (by simp)) harr⟩
   | outgrown=>exact ⟨_,a₁,w₁,hq,.pass (x:=.inLoop c) rfl (fun _ _=>.inl (by simp)) harr⟩
 obtain ⟨e,a',w',hq,harr⟩:=key n a w h
 exact ⟨e,a',w',hq,.of_steps (.one step_loop) harr⟩
end Go.Ax
/- AxLoc: what an operation looks at: the slots of its operands, the blocks that its operands name. -/
namespace Go.Ax
section
variable {E:Env} {n:Nat} {h h':FHeap}
theorem a7e {x:AV} (k:Nat) (hh:∀ b ∈ a0u x,h b = h' b):a1q h k x = a1q h' k x:=by
 cases x<;>simp only [a0u,List.mem_singleton,forall_eq] at hh<;>simp only [a1q]
 rw [hh]
theorem c4j {x:AV} (t:TypeId) (hh:∀ b ∈ a0u x,h b = h' b):b9f E h t x = b9f E h' t x:=by
 unfold b9f
 generalize E.und t = u
 cases x<;>simp only [a0u,List.mem_singleton,forall_eq] at hh<;>(rcases u with _|d;· rfl)<;>cases d<;>first|rfl|(simp only [hh];done)
theorem c0q {x:AV} (t:TypeId) (hh:∀ b ∈ a0u x,h b = h' b):a7g E h t x = a7g E h' t x:=by
 cases x<;>simp only [a0u,List.mem_singleton,forall_eq] at hh<;>simp only [a7g]
 rw [hh]
theorem b90 {p x:AV} (t:TypeId) (hh:∀ b ∈ a0u p,h b = h' b):a7j E h t p x = a7j E h' t p x:=by
 cases p<;>simp only [a0u,List.mem_singleton,forall_eq] at hh<;>simp only [a7j]
 rw [hh]
theorem b91 {x:AV} (t:TypeId) (lo hi mx:Option AV) (hh:∀ b ∈ a0u x,h b = h' b):a3g E h t x lo hi mx = a3g E h' t x lo hi mx:=by
 unfold a3g
 generalize E.und t = u
 cases x<;>simp only [a0u,List.mem_singleton,forall_eq] at hh<;>(rcases u with _|d;· rfl)<;>cases d<;>first|rfl|(simp only [hh];done)
theorem b1h {x:AV} (t:TypeId) (i:AV) (hh:∀ b ∈ a0u x,h b = h' b):a16 E h t x i = a16 E h' t x i:=by
 unfold a16
 generalize E.und t = u
 cases x<;>simp only [a0u,List.mem_singleton,forall_eq] at hh<;>(rcases u with _|d;· rfl)<;>cases d<;>first|rfl|(simp only [hh];done)
theorem b97 {x:AV} (hh:∀ b ∈ a0u x,h b = h' b):b5h h x = b5h h' x:=by
 cases x<;>simp only [a0u,List.mem_singleton,forall_eq] at hh<;>simp only [b5h]
 rw [hh]
theorem b6z {x:AV} (t:TypeId) (k:AV) (ok:Bool) (hh:∀ b ∈ a0u x,h b = h' b):a7f E h t x k ok = a7f E h' t x k ok:=by
 simp only [a7f,b97 hh]
theorem a8b {x:AV} (t:TypeId) (k:AV) (hh:∀ b ∈ a0u x,h b = h' b):b1b E h t x k = b1b E h' t x k:=by
 unfold b1b
 generalize E.und t = u
 cases x<;>simp only [a0u,List.mem_singleton,forall_eq] at hh<;>(rcases u with _|d;· rfl)<;>cases d<;>first|rfl|(simp only [hh];done)
theorem b11 {x:AV} (s v:AV) (hh:∀ b ∈ a0u x,h b = h' b):a4j h x s v = a4j h' x s v:=by
 unfold a4j
 split
 ·rw [hh _ (by simp [a0u])]
 ·rfl
theorem c0p {x:AV} (s:Bool) (hh:∀ b ∈ a0u x,h b = h' b):c4h h x s = c4h h' x s:=by
 unfold c4h
 split
 ·rw [hh _ (by simp [a0u])]
 ·rfl
theorem b99 {x:AV} (s d:TypeId) (hh:∀ b ∈ a0u x,h b = h' b):a5t E h s d x = a5t E h' s d x:=by
 have key:=fun k=>a7e k hh
 unfold a5t
 split
 ·rfl
 ·rw [key]
 ·rfl
theorem b74 {s x:AV} (st xt:TypeId) (hs:∀ b ∈ a0u s,h b = h' b) (hx:∀ b ∈ a0u x,h b = h' b):a4z E h n st xt s x = a4z E h' n st xt s x:=by
 cases s<;>simp only [a0u,List.mem_singleton,forall_eq] at hs<;>simp only [a4z,a7e _ hx]
 rw [hs]
theorem c0s {d x:AV} (dt:TypeId) (hs:∀ b ∈ a0u d,h b = h' b) (hx:∀ b ∈ a0u x,h b = h' b):b3t E h dt d x = b3t E h' dt d x:=by
 cases d<;>simp only [a0u,List.mem_singleton,forall_eq] at hs<;>simp only [b3t,a7e _ hx]
 rw [hs]
theorem b9b {x:AV} (t:TypeId) (hh:∀ b ∈ a0u x,h b = h' b):b09 E h t x = b09 E h' t x:=by
 unfold b09
 generalize E.und t = u
 cases x<;>simp only [a0u,List.mem_singleton,forall_eq] at hh<;>(rcases u with _|d;· rfl)<;>cases d<;>first|rfl|(simp only [hh];done)
theorem c4m (b:Builtin) (ts:List TypeId) (args:List AV) (hh:∀ b ∈ args.flatMap a0u,h b = h' b):d3b E n h b ts args = d3b E n h' b ts args:=by
 unfold d3b
 split
 ·rw [c4j _ (fun b hb=>hh b (by simpa using hb))]
 ·rfl
 ·rw [b74 _ _ (fun b hb=>hh b (by simp [hb])) (fun b hb=>hh b (by simp [hb]))]
 ·rw [c0s _ (fun b hb=>hh b (by simp [hb])) (fun b hb=>hh b (by simp [hb]))]
 ·rw [b9b _ (fun b hb=>hh b (by simpa using hb))]
 ·rfl
 ·rfl
 ·rfl
theorem c8u {op:Op} {v:Operand → AV} (hh:∀ b ∈ a7k op v,h b = h' b):aop E n h op v = aop E n h' op v:=by
 cases op<;>simp only [a7k] at hh<;>simp only [aop]
 case load=>rw [c0q _ hh]
 case store=>rw [b90 _ hh]
 case convert=>rw [b99 _ _ hh]
 case slice=>rw [b91 _ _ _ _ hh]
 case indexAddr=>rw [b1h _ _ hh]
 case lookup=>rw [b6z _ _ _ hh]
 case mapUpdate=>simp only [a2h,a8b _ _ hh]
 case insert=>simp only [a2h,a8b _ _ hh]
 case mapEntry=>simp only [b07,a8b _ _ hh]
 case entryStore=>rw [b11 _ _ hh]
 case next=>rw [c0p _ hh]
 case call c=>
  obtain ⟨callee,args,ts⟩:=c
  cases callee with
  | builtin b=>
   simp only at hh ⊢
   exact c4m _ _ _ (by simpa [List.flatMap_map] using hh)
  | _=>rfl
theorem c8v {op:Op} {v v':Operand → AV} (hv:∀ x ∈ op.operands,v x = v' x):aop E n h op v = aop E n h op v':=by
 have pairs:∀ ps:Array (Nat × Operand),(∀ x ∈ (ps.toList.map (·.2)).toArray,v x = v' x) → (ps.toList.map fun p=>(p.1,v p.2)) = (ps.toList.map fun p=>(p.1,v' p.2)):=fun ps hp=>
  List.map_congr_left fun p hm=>by rw [hp p.2 (by simp only [List.mem_toArray,List.mem_map];exact ⟨p,hm,rfl⟩)]
 cases op<;>simp only [Op.operands] at hv<;>simp only [aop]
 case build t ps=>rw [pairs ps hv]
 case buildSlice t n ps=>rw [pairs ps hv]
 case makeFunc fn first captured=>
  rw [List.map_congr_left (l:=first.toList) fun x hx=>hv x (by simp only [Array.mem_append];exact .inl (by simpa using hx)),List.map_congr_left (l:=captured.toList) fun x hx=>hv x (by simp only [Array.mem_append];exact .inr (by simpa using hx))]
 case call c=>
  obtain ⟨callee,args,ts⟩:=c
  cases callee with
  | builtin b=>
   simp only
   rw [List.map_congr_left (l:=args.toList) fun x hx=>hv x (by simp only [Call.operands];simp;simpa using hx)]
  | _=>rfl
 case makeMap t r=>cases r<;>simp_all
 case slice t x lo hi mx=>cases lo<;>cases hi<;>cases mx<;>simp_all
 all_goals (first|rfl|(simp_all;done))
end
end Go.Ax
/- AxOrd: operations in any order that their edges allow: what the executed ones amount to, in text order. -/
namespace Go.Ax
/-! ### lists that grow at the front, numbered from the back -/
section
variable {R V:Type}
def nth:List R → Nat → Option R
 | [],_=>none
 | r :: rest,j=>if j = rest.length then some r else nth rest j
def pre:List R → Nat → List R
 | [],_=>[]
 | _ :: rest,i=>if i = rest.length then rest else pre rest i
theorem b2h:∀ {l:List R} {i:Nat} {r:R},nth l i = some r → i < l.length
 | [],i,r,h=>by simp [nth] at h
 | a :: rest,i,r,h=>by
  unfold nth at h
  split at h
  ·simp;omega
  ·have:=b2h h;simp;omega
theorem c1k:∀ {l:List R} {i:Nat},i < l.length → ∃ r,nth l i = some r
 | [],i,h=>by simp at h
 | a :: rest,i,h=>by
  unfold nth
  split
  ·exact ⟨a,rfl⟩
  ·exact c1k (by simp at h;omega)
theorem b1m {a:R} {l:List R} {i:Nat} {r:R} (h:nth l i = some r):nth (a :: l) i = some r:=by
 have:=b2h h
 unfold nth;rw [if_neg (by omega)];exact h
theorem b63 (a:R) (l:List R):nth (a :: l) l.length = some a:=by simp [nth]
def gL (o:R → Nat → Option V) (g0:Nat → V) (S:Nat → Bool):List R → Nat → V
 | []=>g0
 | r :: rest=>if S rest.length then fun s=>(o r s).getD (gL o g0 S rest s) else gL o g0 S rest
def a3q:Nat → Bool:=fun _=>true
def b7t (S:Nat → Bool) (i:Nat):Nat → Bool:=fun j=>j == i || S j
variable {o:R → Nat → Option V} {g0:Nat → V} {S:Nat → Bool}
theorem c1z {s:Nat}:∀ {l:List R},(∀ j r',nth l j = some r' → (o r' s).isSome → S j = true) → gL o g0 S l s = gL o g0 a3q l s
 | [],_=>rfl
 | a :: rest,h=>by
  have ih:=c1z (l:=rest) (fun j r' hj=>h j r' (b1m hj))
  simp only [gL,a3q]
  cases ha:o a s with
  | none=>split<;>simp [ha,ih]
  | some v=>rw [h _ a (b63 a rest) (by simp [ha])];simp [ha]
theorem d74 {i s:Nat} {r:R}:∀ {l:List R},nth l i = some r → (∀ j r',nth l j = some r' → (o r' s).isSome → (j < i → S j = true) ∧ (i ≤ j → S j = false)) →
 gL o g0 S l s = gL o g0 a3q (pre l i) s
 | [],h,_=>by simp [nth] at h
 | a :: rest,h,hs=>by
  have hhead:i ≤ rest.length → gL o g0 S (a :: rest) s = gL o g0 S rest s:=by
   intro hi
   simp only [gL]
   split
   ·rename_i hS
    cases ha:o a s with
    | none=>simp [ha]
    | some v=>rw [(hs _ a (b63 a rest) (by simp [ha])).2 hi] at hS;cases hS
   ·rfl
  unfold nth at h
  split at h
  ·rename_i hi
   subst hi
   rw [hhead (Nat.le_refl _)]
   simp only [pre,if_true]
   exact c1z (fun j r' hj ho=>(hs j r' (b1m hj) ho).1 (b2h hj))
  ·rename_i hi
   have:=b2h h
   rw [hhead (by omega)]
   simp only [pre,if_neg hi]
   exact d74 h (fun j r' hj ho=>hs j r' (b1m hj) ho)
theorem b6g {S':Nat → Bool}:∀ {l:List R},(∀ j,j < l.length → S j = S' j) → gL o g0 S l = gL o g0 S' l
 | [],_=>rfl
 | a :: rest,h=>by
  simp only [gL]
  rw [h rest.length (by simp),b6g (l:=rest) (fun j hj=>h j (by simp;omega))]
theorem c7m {i:Nat} {r:R}:∀ {l:List R},nth l i = some r → S i = false → (∀ k r',nth l k = some r' → i < k → S k = true → ∀ s,(o r s).isSome → o r' s = none) →
 gL o g0 (b7t S i) l = fun s=>(o r s).getD (gL o g0 S l s)
 | [],h,_,_=>by simp [nth] at h
 | a :: rest,h,hS,hk=>by
  unfold nth at h
  split at h
  ·rename_i hi
   cases h
   have:gL o g0 (b7t S i) rest = gL o g0 S rest:=b6g fun j hj=>by simp [b7t];omega
   simp only [gL,this]
   subst hi
   simp [b7t,hS]
  ·rename_i hi
   have hlt:=b2h h
   have ih:=c7m h hS (fun k r' hr=>hk k r' (b1m hr))
   simp only [gL,ih]
   have hp:b7t S i rest.length = S rest.length:=by simp [b7t];intro he;omega
   rw [hp]
   split
   ·rename_i hSr
    funext s
    cases hr:o r s with
    | none=>simp
    | some v=>rw [hk _ a (b63 a rest) hlt hSr s (by simp [hr])];simp
   ·rfl
end
/-! ### edges -/
def a7h (all:List Oper) (S:Nat → Bool) (j:Nat):Prop:=∀ o,all[j]? = some o → ∀ e ∈ o.after.toList,Region.binds .any e = true → S e.on = true
theorem b2w {all:List Oper} {S:Nat → Bool} (hS:∀ j,S j = true → a7h all S j) (i:Nat):∀ n j,a7h all S j → a9t all i n j = true → S i = true
 | 0,j,_,h=>by simp [a9t] at h
 | n + 1,j,hj,h=>by
  unfold a9t at h
  split at h
  ·rename_i o ho
   simp only [List.any_eq_true,Bool.and_eq_true,Bool.or_eq_true,beq_iff_eq] at h
   obtain ⟨e,he,hb,h⟩:=h
   have hon:=hj o ho e he hb
   rcases h with rfl|h
   ·exact hon
   ·exact b2w hS i n e.on (hS _ hon) h
  ·cases h
theorem b4o {all:List Oper} {S:Nat → Bool} (hS:∀ j,S j = true → a7h all S j) {i j:Nat} (hj:a7h all S j) (h:a3x all i j = true):S i = true:=by
 unfold a3x at h
 rw [Bool.or_eq_true] at h
 rcases h with h|h
 ·unfold d4f at h
  split at h
  ·rename_i o ho
   simp only [List.any_eq_true,Bool.and_eq_true,beq_iff_eq] at h
   obtain ⟨e,he,hb,rfl⟩:=h
   exact hj o ho e he hb
  ·cases h
 ·exact b2w hS i _ j hj h
theorem b81 {all:List Oper} {j:Nat} {y:LogE}:∀ {l:List LogE},logOk.logRow all j y l.length l = true → ∀ i x,nth l i = some x → x.clash y = true → a3x all i j = true
 | [],_,i,x,h,_=>by simp [nth] at h
 | a :: rest,hl,i,x,h,hc=>by
  simp only [List.length_cons,logOk.logRow,Bool.and_eq_true,Bool.or_eq_true,Bool.not_eq_true'] at hl
  unfold nth at h
  split at h
  ·rename_i hi
   cases h;subst hi
   rcases hl.1 with h'|h'
   ·rw [hc] at h';cases h'
   ·exact h'
  ·exact b81 hl.2 i x h hc
theorem b1p {all:List Oper}:∀ {l:List LogE},logOk all l.length l = true → ∀ i j x y,i < j → nth l i = some x → nth l j = some y → x.clash y = true → a3x all i j = true
 | [],_,i,j,x,y,_,h,_,_=>by simp [nth] at h
 | a :: rest,hl,i,j,x,y,hij,hi,hj,hc=>by
  simp only [List.length_cons,logOk,Bool.and_eq_true] at hl
  unfold nth at hj
  split at hj
  ·rename_i hjr
   cases hj;subst hjr
   unfold nth at hi
   rw [if_neg (by omega)] at hi
   exact b81 hl.1 i x hi hc
  ·have:=b2h hj
   unfold nth at hi
   rw [if_neg (by omega)] at hi
   exact b1p hl.2 i j x y hij hi hj hc
/-! ### what is asked of a region's text -/
def b1z (l:List Operand):List Nat:=l.filterMap fun|.tmp t=>some t|_=>none
def looks (all:List Oper) (o:Oper):List Nat:=
 b1z o.op.operands.toList ++ (match o.guard with
  | some (g,_)=>(a2o all g).toList
  | none=>[])
def a5k (all:List Oper) (x y:Oper):Bool:=
 (match x.dst with|some d=>(looks all y).contains d|none=>false) ||
 (match y.dst with|some d=>(looks all x).contains d|none=>false) ||
 (match x.dst,y.dst with|some d,some d'=>d == d'|_,_=>false)
def b3f (all:List Oper) (j:Nat) (y:Oper):Nat → List Oper → Bool
 | _,[]=>true
 | i,x :: r=>(Nat.ble j i || !(a5k all x y) || a3x all i j) && b3f all j y (i + 1) r
def b02 (all:List Oper):Nat → List Oper → Bool
 | _,[]=>true
 | j,y :: r=>y.after.toList.all (fun e=>!(Region.binds .any e) || Nat.blt e.on j) && b3f all j y 0 all && b02 all (j + 1) r
def c2e (all:List Oper):Bool:=b02 all 0 all
theorem b57 {all:List Oper} {j:Nat} {y:Oper}:∀ {l:List Oper} {s:Nat},b3f all j y s l = true → ∀ i x,l[i]? = some x → s + i < j → a5k all x y = true → a3x all (s + i) j = true
 | [],s,_,i,x,h,_,_=>by simp at h
 | a :: r,s,hl,0,x,h,hij,hm=>by
  simp only [b3f,Bool.and_eq_true,Bool.or_eq_true,Bool.not_eq_true',Nat.ble_eq] at hl
  simp only [List.getElem?_cons_zero,Option.some.injEq] at h
  subst h
  rcases hl.1 with (h|h)|h
  ·omega
  ·rw [hm] at h;cases h
  ·exact h
 | a :: r,s,hl,i + 1,x,h,hij,hm=>by
  simp only [b3f,Bool.and_eq_true] at hl
  have:=b57 hl.2 i x (by simpa using h) (by omega) hm
  rw [show s + (i + 1) = s + 1 + i by omega];exact this
theorem b3e {all:List Oper}:∀ {l:List Oper} {s:Nat},b02 all s l = true → ∀ j y,l[j]? = some y →
 (∀ e ∈ y.after.toList,Region.binds .any e = true → e.on < s + j) ∧ ∀ i x,all[i]? = some x → i < s + j → a5k all x y = true → a3x all i (s + j) = true
 | [],s,_,j,y,h=>by simp at h
 | a :: r,s,hl,0,y,h=>by
  simp only [b02,Bool.and_eq_true,List.all_eq_true,Bool.or_eq_true,Bool.not_eq_true',Nat.blt_eq] at hl
  simp only [List.getElem?_cons_zero,Option.some.injEq] at h
  subst h
  refine ⟨fun e he hb=>(hl.1.1 e he).resolve_left (by simp [hb]),fun i x hx hi hm=>?_⟩
  have:=b57 hl.1.2 i x hx (by omega) hm
  simpa using this
 | a :: r,s,hl,j + 1,y,h=>by
  simp only [b02,Bool.and_eq_true] at hl
  have:=b3e hl.2 j y (by simpa using h)
  rw [show s + (j + 1) = s + 1 + j by omega];exact this
theorem b03 {all:List Oper} (h:c2e all = true) {j:Nat} {y:Oper} (hy:all[j]? = some y) :
 (∀ e ∈ y.after.toList,Region.binds .any e = true → e.on < j) ∧ ∀ i x,all[i]? = some x → i < j → a5k all x y = true → a3x all i j = true:=by
 have:=b3e h j y hy
 simpa using this
end Go.Ax
/- AxDraw: a region that draws its order: one run in text order stands for a3q order. -/
namespace Go.Ax
theorem c8t {E:Env} {n n':Nat} {h:FHeap} {op:Op} {v:Operand → AV} {x:AV} {e:Eff} (ha:aop E n h op v = some (x,e)) (he:e.fresh = false):aop E n' h op v = some (x,e):=by
 have app:∀ st xt s y,a4z E h n st xt s y = some (x,e) → a4z E h n' st xt s y = some (x,e):=by
  intro st xt s y hy
  unfold a4z at hy ⊢
  simp only [cond_eq_ite] at hy ⊢
  repeat' split at hy
  all_goals first
   | (cases hy;done)
   | (cases hy;simp [Eff.fresh] at he;done)
   | (simp_all;done)
   | (simp_all;rename_i hh;exact hh.2)
 have blt:∀ b ts args,d3b E n h b ts args = some (x,e) → d3b E n' h b ts args = some (x,e):=by
  intro b ts args hb
  unfold d3b at hb ⊢
  split at hb
  all_goals first
   | exact hb
   | exact app _ _ _ _ hb
 cases op
 case alloc t=>
  simp only [aop,d8k,cond_eq_ite] at ha
  repeat' split at ha
  all_goals cases ha
  simp [Eff.fresh] at he
 case box t y=>
  simp only [aop,d8v,cond_eq_ite] at ha
  repeat' split at ha
  all_goals cases ha
  all_goals simp [Eff.fresh] at he
 case buildSlice=>
  simp only [aop,a34,cond_eq_ite] at ha
  repeat' split at ha
  all_goals cases ha
  all_goals simp [Eff.fresh] at he
 case makeMap=>
  simp only [aop] at ha
  repeat' split at ha
  all_goals cases ha
  all_goals simp [Eff.fresh] at he
 case makeSlice=>
  simp only [aop,a3p,cond_eq_ite] at ha
  repeat' split at ha
  all_goals cases ha
  all_goals simp [Eff.fresh] at he
 case range=>
  simp only [aop,c2m] at ha
  repeat' split at ha
  all_goals cases ha
  all_goals simp [Eff.fresh] at he
 case call c=>
  obtain ⟨callee,args,ts⟩:=c
  cases callee with
  | builtin b=>exact blt _ _ _ ha
  | _=>cases ha
 all_goals exact ha
structure Rec where
 dst:Option Nat
 v:AV
 ov:Nat → Option (Option AObj)
 fresh:Bool
 log:LogE
def fov (r:Rec) (s:Nat):Option AV:=if r.dst = some s then some r.v else none
def hov (r:Rec) (b:Nat):Option (Option AObj):=r.ov b
def cnt (m0:Nat):List Rec → Nat
 | []=>m0
 | r :: rest=>bif r.fresh then cnt m0 rest + 1 else cnt m0 rest
def c1q (m0:Nat) (S:Nat → Bool):List Rec → Nat → Prop
 | [],_=>False
 | r :: rest,b=>(S rest.length = true ∧ r.fresh = true ∧ b = cnt m0 rest) ∨ c1q m0 S rest b
theorem c03 {m0:Nat} {S:Nat → Bool}:∀ {l:List Rec} {b:Nat},c1q m0 S l b → b < cnt m0 l
 | [],b,h=>h.elim
 | r :: rest,b,h=>by
  simp only [cnt,cond_eq_ite]
  rcases h with ⟨_,hf,rfl⟩|h
  ·rw [if_pos hf];omega
  ·have:=c03 h;split<;>omega
theorem c8b {m0:Nat} {i:Nat} {r:Rec}:∀ {l:List Rec},nth l i = some r → cnt m0 (pre l i) ≤ cnt m0 l ∧ (r.fresh = true → cnt m0 (pre l i) < cnt m0 l)
 | [],h=>by simp [nth] at h
 | a :: rest,h=>by
  unfold nth at h
  simp only [pre,cnt,cond_eq_ite]
  split at h
  ·rename_i hi
   cases h
   rw [if_pos hi]
   refine ⟨by split<;>omega,fun hf=>?_⟩
   rw [if_pos hf];omega
  ·rename_i hi
   have:=c8b (m0:=m0) h
   rw [if_neg hi]
   refine ⟨by split<;>omega,fun hf=>by have:=this.2 hf;split<;>omega⟩
theorem c6q {m0:Nat} {S:Nat → Bool} {i:Nat} {r:Rec}:∀ {l:List Rec},nth l i = some r → r.fresh = true → c1q m0 S l (cnt m0 (pre l i)) → S i = true
 | [],h,_,_=>by simp [nth] at h
 | a :: rest,h,hf,hm=>by
  unfold nth at h
  split at h
  ·rename_i hi
   cases h
   simp only [pre,if_pos hi] at hm
   rcases hm with ⟨hS,_⟩|hm
   ·rw [hi];exact hS
   ·exact absurd (c03 hm) (Nat.lt_irrefl _)
  ·rename_i hi
   simp only [pre,if_neg hi] at hm
   have:=(c8b (m0:=m0) h).2 hf
   rcases hm with ⟨_,_,he⟩|hm
   ·omega
   ·exact c6q h hf hm
theorem b80 {m0:Nat} {S:Nat → Bool} {i:Nat} {r:Rec} {b:Nat}:∀ {l:List Rec},nth l i = some r → (c1q m0 S l b ∨ (r.fresh = true ∧ b = cnt m0 (pre l i))) → c1q m0 (b7t S i) l b
 | [],h,_=>by simp [nth] at h
 | a :: rest,h,hb=>by
  have mono:∀ {l:List Rec},c1q m0 S l b → c1q m0 (b7t S i) l b:=by
   intro l
   induction l with
   | nil=>exact fun h=>h
   | cons a rest ih=>exact fun h=>h.imp (fun ⟨h1,h2⟩=>⟨by simp [b7t,h1],h2⟩) ih
  unfold nth at h
  rcases hb with hb|⟨hf,hb⟩
  ·exact mono hb
  ·split at h
   ·rename_i hi
    cases h
    simp only [pre,if_pos hi] at hb
    exact .inl ⟨by simp [b7t,hi],hf,hb⟩
   ·rename_i hi
    simp only [pre,if_neg hi] at hb
    exact .inr (b80 h (.inr ⟨hf,hb⟩))
structure DNow (E:Env) (e:Entry) (N m0:Nat) (C:Nat → Prop) (f:Nat → AV) (h:FHeap) (I:Nat → Prop) (ρ:PMap) (a:Act) (w:World):Prop where
 imm:∀ c,e.I c → I c
 map:∀ b,b < e.m → ρ b = e.ρ b
 ext:Ext e.I e.K e.w w
 rel:HRel E.G I e.K ρ h w
 nrel:∀ b,m0 ≤ b → ¬ C b → ρ b = none
 fin:∃ M,NRel ρ M
 size:a.tmps.size = N
 frm:∀ s,VRel I w ρ (f s) (a.tmps.getD s undef)
 defers:a.defers = e.defers
def opvf (E:Env) (f:Nat → AV):Operand → AV
 | .tmp t=>f t
 | .const v=>c2h v
 | .global g=>match E.G g with|some cs=>.iptr cs|none=>.junk
 | .func f=>.func (.func f) [] []
section
variable {E:Env} {e:Entry} {N m0:Nat} {C:Nat → Prop} {f:Nat → AV} {h:FHeap} {I:Nat → Prop} {ρ:PMap} {a:Act} {w:World}
theorem DNow.opvf (d:DNow E e N m0 C f h I ρ a w) (x:Operand):VRel I w ρ (opvf E f x) (a.eval x):=by
 cases x with
 | tmp t=>exact d.frm t
 | const v=>exact b8n v
 | global g=>
  simp only [Ax.opvf,Act.eval]
  cases hg:E.G g with
  | none=>simp [VRel]
  | some cs=>
   obtain ⟨h1,h2⟩:=d.rel.glob g cs hg
   simp only [VRel]
   exact ⟨g,0,rfl,h1,h2⟩
 | func f=>simp only [Ax.opvf,Act.eval,VRel];exact ⟨#[],#[],rfl,by simp [VRels],by simp [VRels]⟩
theorem c3i {t:Nat} {l:List Operand} (h:Operand.tmp t ∈ l):t ∈ b1z l:=by
 simp only [b1z,List.mem_filterMap]
 exact ⟨_,h,rfl⟩
theorem b7x {F:Frm} {l:List Operand} (hf:∀ s ∈ b1z l,f s = a25 F s):∀ x ∈ l,opv E F x = opvf E f x:=by
 intro x hx
 cases x with
 | tmp t=>exact (hf t (c3i hx)).symm
 | _=>rfl
theorem b2b {I':Nat → Prop} {w':World} {ρ':PMap} (hv:∀ (v:AV) (c:Value),VRel I w ρ v c → VRel I' w' ρ' v c) (hsz:a.tmps.size = N) (hf:∀ s,VRel I w ρ (f s) (a.tmps.getD s undef)) {d:Option Nat}
 (hd:a6v N d = true) {v:AV} {c:Value} (hc:VRel I' w' ρ' v c):∀ s,VRel I' w' ρ' ((if d = some s then some v else none).getD (f s)) ((a.put d c).tmps.getD s undef):=by
 intro s
 cases d with
 | none=>simpa [Act.put] using hv _ _ (hf s)
 | some d=>
  have hlt:d < N:=by simpa [a6v,Nat.blt_eq] using hd
  simp only [Act.put,Array.getD_eq_getD_getElem?,Array.getElem?_setIfInBounds,hsz,Option.some.injEq]
  split
  ·subst s;simpa [hlt] using hc
  ·have:=hv _ _ (hf s);simpa [Array.getD_eq_getD_getElem?] using this
theorem a9l {d:Option Nat} {c:Value}:(a.put d c).tmps.size = a.tmps.size:=by cases d<;>simp [Act.put]
theorem a6p {d:Option Nat} {c:Value}:(a.put d c).defers = a.defers:=by cases d<;>rfl
def c4p (n:Nat):Eff → Nat → Option (Option AObj)
 | .none,_=>none
 | .new o,b=>if b = n then some (some o) else none
 | .set b0 o,b=>if b = b0 then some (some o) else none
 | .kill b0 o,b=>if b = n then some (some o) else if b = b0 then some none else none
theorem e25 (h:FHeap) (n:Nat) (e:Eff):h.eff n e = fun b=>(c4p n e b).getD (h b):=by
 funext b
 cases e<;>simp only [FHeap.eff,FHeap.set,c4p]
 ·rfl
 ·split<;>rfl
 ·split<;>rfl
 ·split
  ·rfl
  ·split<;>rfl
theorem d7m {H:a06} {e:Eff} (hf:e.fits H.length = true):a04 (b01 H e) = fun b=>(c4p H.length e b).getD (a04 H b):=by
 funext b
 cases e with
 | none=>rfl
 | new o=>
  simp only [b01,a04,c4p]
  split
  ·subst b;simp
  ·rcases Nat.lt_or_ge b H.length with h1|h1
   ·rw [List.getElem?_append_left h1];rfl
   ·rw [List.getElem?_eq_none (by simp;omega),List.getElem?_eq_none (by omega)];rfl
 | set b1 o=>
  have hb1:b1 < H.length:=by simpa [Eff.fits,Nat.blt_eq] using hf
  simp only [b01,a04,c4p,List.getElem?_set]
  split
  ·subst b;simp [hb1]
  ·rename_i hne;rw [if_neg (fun e=>hne e.symm)];rfl
 | kill b1 o=>
  have hb1:b1 < H.length:=by simpa [Eff.fits,Nat.blt_eq] using hf
  simp only [b01,a04,c4p]
  split
  ·subst b;rw [List.getElem?_append_right (by simp)];simp
  ·rcases Nat.lt_or_ge b H.length with h1|h1
   ·rw [List.getElem?_append_left (by simpa using h1),List.getElem?_set]
    split
    ·rename_i hne;subst hne;simp [hb1]
    ·rename_i hne hne2;rw [if_neg (fun e=>hne2 e.symm)];rfl
   ·rw [List.getElem?_eq_none (by simp;omega),if_neg (by omega),List.getElem?_eq_none h1];rfl
theorem c6c {n b:Nat} {e:Eff} (h:(c4p n e b).isSome = true):b ∈ e.keys n:=by
 cases e<;>simp only [c4p] at h
 ·simp at h
 ·split at h
  ·subst b;simp [Eff.keys]
  ·simp at h
 ·split at h
  ·subst b;simp [Eff.keys]
  ·simp at h
 ·split at h
  ·subst b;simp [Eff.keys]
  ·split at h
   ·subst b;simp [Eff.keys]
   ·simp at h
end
end Go.Ax
/- AxDraw2: one operation of a region that draws its order. -/
namespace Go.Ax
section
variable {E:Env} {e:Entry} {N m0:Nat}
theorem b13 {hp hp':FHeap} {σ:List Nat} (h:∀ b ∈ σ,hp b = hp' b):a5j hp σ = a5j hp' σ:=by
 unfold a5j
 exact List.map_congr_left fun b hb=>by rw [h b hb]
def c2q (E:Env) (e:Entry) (N m0 n:Nat) (o:Oper) (fp:Nat → AV) (hp:FHeap) (v:AV) (ov:Nat → Option (Option AObj)) (fresh:Bool) (l:LogE):Prop:=
 ∀ {C:Nat → Prop} {f:Nat → AV} {h:FHeap} {I:Nat → Prop} {ρ:PMap} {a:Act} {w:World},DNow E e N m0 C f h I ρ a w → (∀ s ∈ b1z o.op.operands.toList,f s = fp s) → (∀ b ∈ l.needs,h b = hp b) → (fresh = true → ¬ C n) →
  ∀ {K:Act → World → Prop} {Q:Exit → Act → World → Prop},(∀ I' ρ' a' w',DNow E e N m0 (fun b=>C b ∨ (fresh = true ∧ b = n)) (fun s=>((if o.dst = some s then some v else none).getD (f s))) (fun b=>(ov b).getD (h b)) I' ρ' a' w' → K a' w') →
   o.wp E.P a w K Q
theorem d30 (ok:EnvOk E) {F:Frm} {H:a06} {o:Oper} {v:AV} {eff:Eff} (hlow:e.m ≤ m0) (hn0:m0 ≤ H.length) (hd:a6v N o.dst = true) (ha:aop E H.length (a04 H) o.op (opv E F) = some (v,eff)) :
 c2q E e N m0 H.length o (a25 F) (a04 H) v (c4p H.length eff) eff.fresh ⟨a7k o.op (opv E F),eff.keys H.length⟩:=by
 intro C f h I ρ a w hnow hf hh hC K Q hK
 have hops:=b7x (E:=E) hf
 have hops':∀ x ∈ o.op.operands,opv E F x = opvf E f x:=fun x hx=>hops x (by simpa using hx)
 have ha1:aop E H.length h o.op (opvf E f) = some (v,eff):=by
  rw [← c8v hops',c8u (h':=a04 H) hh];exact ha
 obtain ⟨M,hM⟩:=hnow.fin
 obtain ⟨n',hn1,hρ',ha2⟩:∃ n',(eff.fresh = true → n' = H.length) ∧ ρ n' = none ∧ aop E n' h o.op (opvf E f) = some (v,eff):=by
  cases hfr:eff.fresh with
  | true=>exact ⟨H.length,fun _=>rfl,hnow.nrel _ hn0 (hC hfr),ha1⟩
  | false=>exact ⟨M,(by simp),hM _ (Nat.le_refl _),c8t ha1 hfr⟩
 have hnone:h n' = none:=by
  cases hx:h n' with
  | none=>rfl
  | some ob=>
   obtain ⟨m,h1,_⟩:=hnow.rel.live _ _ hx
   rw [hρ'] at h1;cases h1
 obtain ⟨x,w',c,ρ',hrun,hx,step,hv,hm⟩:=d4l ok hnow.rel hnone hρ' ha2 hnow.opvf
 have hov:h.eff n' eff = fun b=>(c4p H.length eff b).getD (h b):=by
  rw [e25]
  cases hfr:eff.fresh with
  | true=>rw [hn1 hfr]
  | false=>cases eff<;>simp [Eff.fresh] at hfr<;>rfl
 have hmoves:∀ b,(eff.fresh = true → b ≠ H.length) → ρ' b = ρ b:=by
  intro b hb
  cases hfr:eff.fresh with
  | true=>exact hm.1 b (by rw [hn1 hfr];exact hb hfr)
  | false=>rw [hm.2 hfr]
 have hnew:DNow E e N m0 (fun b=>C b ∨ (eff.fresh = true ∧ b = H.length)) (fun s=>((if o.dst = some s then some v else none).getD (f s))) (fun b=>(c4p H.length eff b).getD (h b)) I ρ' (a.put o.dst c) w':=by
  refine ⟨hnow.imm,fun b hb=>?_,hnow.ext.trans hnow.imm step.ext,hov ▸ step.rel,fun b hb hc=>?_,⟨max M (H.length + 1),fun b hb=>?_⟩,by rw [a9l];exact hnow.size,?_,by rw [a6p];exact hnow.defers⟩
  ·rw [hmoves b (fun _=>by omega)];exact hnow.map b hb
  ·rw [hmoves b (fun hf he=>hc (.inr ⟨hf,he⟩))];exact hnow.nrel b hb (fun h=>hc (.inl h))
  ·rw [hmoves b (fun _=>by omega)];exact hM b (by omega)
  ·exact b2b (fun v c hv=>step.vrel hv) hnow.size hnow.frm hd hv
 unfold Oper.wp
 rw [hrun]
 rcases hx with rfl|⟨rfl,rfl⟩
 ·rw [Oper.upon_value];exact hK I ρ' _ _ hnew
 ·rw [Oper.upon_skip];exact hK I ρ' _ _ hnew
theorem c8h {g:FuncId} {run:List AV → a06 → Option (AV × a06)} (hrun:b75 E g run) {args:List AV} {H H':a06} {v:AV} {σ:List Nat}
 (hcall:a2t run args H = some (v,H',σ)) (hlen:H'.length = H.length) :
 ∃ ov:Nat → Option (Option AObj),(a04 H' = fun b=>(ov b).getD (a04 H b)) ∧ (∀ b,(ov b).isSome = true → b ∈ σ) ∧
  ∀ {I K:Nat → Prop} {ρ:PMap} {h:FHeap} {w:World} {cargs:List Value},HRel E.G I K ρ h w → (∀ b ∈ σ,h b = a04 H b) → VRels I w ρ args cargs →
   Calls E.P g cargs.toArray w fun en w'=>∃ c I',en = .returned c ∧ (∀ c,I c → I' c) ∧ Ext I K w w' ∧ HRel E.G I' K ρ (fun b=>(ov b).getD (h b)) w' ∧ VRel I' w' ρ v c:=by
 unfold a2t at hcall
 simp only at hcall
 generalize hσ:a2j H a4o (a0d args) [] = σ' at hcall
 rw [cond_eq_ite] at hcall
 split at hcall
 case isFalse=>cases hcall
 rename_i hc
 simp only [Bool.and_eq_true,List.all_eq_true,Nat.blt_eq] at hc
 obtain ⟨hnd,hlt⟩:=hc
 have hnd:=b1n hnd
 split at hcall
 case h_2=>cases hcall
 rename_i v1 H1 hr
 simp only [Option.some.injEq,Prod.mk.injEq] at hcall
 obtain ⟨rfl,rfl,rfl⟩:=hcall
 have hr':run (args.map (ren (a50 σ'))) (a5j (a04 H) σ') = some (v1,H1):=hr
 have hH1:H1.length ≤ σ'.length:=by
  simp only [List.length_append,a17,List.length_map,List.length_drop] at hlen;omega
 refine ⟨fun b=>(σ'.idxOf? b).map fun j=>(a04 H1 j).map (a0m (a18 σ' H.length)),?_,?_,?_⟩
 ·funext b
  simp only [a04]
  rcases Nat.lt_or_ge b H.length with hb|hb
  ·rw [List.getElem?_append_left (by rw [a17];exact hb),a75]
   simp only [Nat.zero_add]
   rw [z9e hb]
   cases hx:σ'.idxOf? b<;>simp [a04]
  ·rw [List.getElem?_eq_none (by simp only [List.length_append,a17,List.length_map,List.length_drop];omega),List.getElem?_eq_none hb]
   cases hx:σ'.idxOf? b with
   | none=>rfl
   | some j=>
    have:=hlt b (List.mem_of_getElem? (a1d hx))
    omega
 ·intro b hb
  dsimp only at hb
  cases hx:σ'.idxOf? b with
  | none=>rw [hx] at hb;simp at hb
  | some j=>exact List.mem_of_getElem? (a1d hx)
 ·intro I K ρ h w cargs rel hh ha
  have hr2:run (args.map (ren (a50 σ'))) (a5j h σ') = some (v1,H1):=by rw [b13 hh];exact hr'
  refine (b6v hrun hr2 rel hnd ha).mono ?_
  rintro en w' ⟨c,I1,ρ1,rfl,hret,hv⟩
  have hback:∀ j b m,a18 σ' H.length j = some b → ρ1 j = some m → ρ b = some m:=by
   intro j b m hj hm
   rcases Nat.lt_or_ge j σ'.length with hjl|hjl
   ·simp only [a18] at hj
    rw [cond_eq_ite,if_pos (by simpa [Nat.blt_eq] using hjl)] at hj
    have:=hret.map j hjl
    rw [hm,hj] at this
    exact this.symm
   ·rw [hret.nrel j (by omega)] at hm;cases hm
  refine ⟨c,I1,rfl,hret.imm,hret.ext.keepLess (fun c hc=>.inl hc),?_,VRel.ren hback v1 hv⟩
  refine b6x rel hnd hret (fun _ _ h=>h) hback (fun b m hb=>.inl hb) ?_
  intro b o hb
  dsimp only at hb
  cases hx:σ'.idxOf? b with
  | none=>rw [hx] at hb;exact .inl ⟨b0p hx,hb⟩
  | some j=>
   rw [hx] at hb
   simp only [Option.map_some,Option.getD_some] at hb
   obtain ⟨o1,ho1,rfl⟩:=a09 hb
   have hσj:=a1d hx
   refine .inr ⟨j,o1,?_,ho1,rfl⟩
   simp only [a18]
   rw [cond_eq_ite,if_pos (by simpa [Nat.blt_eq] using (List.getElem?_eq_some_iff.1 hσj).1)]
   exact hσj
theorem d2q {g:FuncId} {run:List AV → a06 → Option (AV × a06)} (hrun:b75 E g run) {args:List AV} {H H':a06} {v:AV} {σ:List Nat}
 (hcall:a2t run args H = some (v,H',σ)) (hlen:H'.length = H.length + 1) :
 ∃ ov:Nat → Option (Option AObj),(a04 H' = fun b=>(ov b).getD (a04 H b)) ∧ (∀ b,(ov b).isSome = true → b ∈ σ ++ [H.length]) ∧
  ∀ {I K:Nat → Prop} {ρ:PMap} {h:FHeap} {w:World} {cargs:List Value},HRel E.G I K ρ h w → ρ H.length = none → (∀ b ∈ σ,h b = a04 H b) → VRels I w ρ args cargs →
   Calls E.P g cargs.toArray w fun en w'=>∃ c I' ρ',en = .returned c ∧ (∀ c,I c → I' c) ∧ Ext I K w w' ∧ (∀ b,b ≠ H.length → ρ' b = ρ b) ∧ HRel E.G I' K ρ' (fun b=>(ov b).getD (h b)) w' ∧ VRel I' w' ρ' v c:=by
 unfold a2t at hcall
 simp only at hcall
 generalize hσ:a2j H a4o (a0d args) [] = σ' at hcall
 rw [cond_eq_ite] at hcall
 split at hcall
 case isFalse=>cases hcall
 rename_i hc
 simp only [Bool.and_eq_true,List.all_eq_true,Nat.blt_eq] at hc
 obtain ⟨hnd,hlt⟩:=hc
 have hnd:=b1n hnd
 split at hcall
 case h_2=>cases hcall
 rename_i v1 H1 hr
 simp only [Option.some.injEq,Prod.mk.injEq] at hcall
 obtain ⟨rfl,rfl,rfl⟩:=hcall
 have hr':run (args.map (ren (a50 σ'))) (a5j (a04 H) σ') = some (v1,H1):=hr
 have hH1:H1.length = σ'.length + 1:=by
  simp only [List.length_append,a17,List.length_map,List.length_drop] at hlen;omega
 refine ⟨fun b=>if b = H.length then some ((a04 H1 σ'.length).map (a0m (a18 σ' H.length))) else (σ'.idxOf? b).map fun j=>(a04 H1 j).map (a0m (a18 σ' H.length)),?_,?_,?_⟩
 ·funext b
  simp only [a04]
  rcases Nat.lt_or_ge b H.length with hb|hb
  ·rw [List.getElem?_append_left (by rw [a17];exact hb),a75,if_neg (by omega)]
   simp only [Nat.zero_add]
   rw [z9e hb]
   cases hx:σ'.idxOf? b<;>simp [a04]
  ·rw [List.getElem?_append_right (by rw [a17];exact hb),a17,List.getElem?_map,List.getElem?_drop]
   by_cases he:b = H.length
   ·subst he
    rw [if_pos rfl,Nat.sub_self,Nat.add_zero]
    cases hx:H1[σ'.length]? with
    | none=>simp [hx]
    | some ob=>simp [hx]
   ·rw [if_neg he,List.getElem?_eq_none (by omega),List.getElem?_eq_none hb]
    cases hx:σ'.idxOf? b with
    | none=>rfl
    | some j=>
     have:=hlt b (List.mem_of_getElem? (a1d hx))
     omega
 ·intro b hb
  dsimp only at hb
  by_cases he:b = H.length
  ·subst he;simp
  ·rw [if_neg he] at hb
   cases hx:σ'.idxOf? b with
   | none=>rw [hx] at hb;simp at hb
   | some j=>exact List.mem_append_left _ (List.mem_of_getElem? (a1d hx))
 ·intro I K ρ h w cargs rel hn hh ha
  have hr2:run (args.map (ren (a50 σ'))) (a5j h σ') = some (v1,H1):=by rw [b13 hh];exact hr'
  refine (b6v hrun hr2 rel hnd ha).mono ?_
  rintro en w' ⟨c,I1,ρ1,rfl,hret,hv⟩
  have hback:∀ j b m,a18 σ' H.length j = some b → ρ1 j = some m → (if b = H.length then ρ1 σ'.length else ρ b) = some m:=by
   intro j b m hj hm
   simp only [a18] at hj
   rw [cond_eq_ite] at hj
   split at hj
   ·rename_i hjl
    have hjl:j < σ'.length:=by simpa [Nat.blt_eq] using hjl
    have hb:=hlt b (List.mem_of_getElem? hj)
    rw [if_neg (by omega)]
    have:=hret.map j hjl
    rw [hm,hj] at this
    exact this.symm
   ·rename_i hjl
    have hjl:σ'.length ≤ j:=by simpa [Nat.blt_eq] using hjl
    cases hj
    by_cases he:j = σ'.length
    ·subst he;rw [if_pos (by omega)];exact hm
    ·rw [hret.nrel j (by omega)] at hm;cases hm
  have hold:∀ b m,ρ b = some m → (if b = H.length then ρ1 σ'.length else ρ b) = some m:=by
   intro b m hb
   rw [if_neg (fun e=>by subst e;rw [hn] at hb;cases hb)];exact hb
  refine ⟨c,I1,fun b=>if b = H.length then ρ1 σ'.length else ρ b,rfl,hret.imm,hret.ext.keepLess (fun c hc=>.inl hc),fun b hb=>if_neg hb,?_,VRel.ren hback v1 hv⟩
  refine b6x rel hnd hret hold hback ?_ ?_
  ·intro b m hb
   split at hb
   ·exact .inr ⟨_,hb⟩
   ·exact .inl hb
  intro b o hb
  dsimp only at hb
  by_cases he:b = H.length
  ·subst he
   rw [if_pos rfl,Option.getD_some] at hb
   obtain ⟨o1,ho1,rfl⟩:=a09 hb
   refine .inr ⟨σ'.length,o1,?_,ho1,rfl⟩
   simp only [a18]
   rw [cond_eq_ite,if_neg (by simp [Nat.blt_eq]),Nat.sub_self,Nat.add_zero]
  rw [if_neg he] at hb
  cases hx:σ'.idxOf? b with
  | none=>rw [hx] at hb;exact .inl ⟨b0p hx,hb⟩
  | some j=>
   rw [hx] at hb
   simp only [Option.map_some,Option.getD_some] at hb
   obtain ⟨o1,ho1,rfl⟩:=a09 hb
   have hσj:=a1d hx
   refine .inr ⟨j,o1,?_,ho1,rfl⟩
   simp only [a18]
   rw [cond_eq_ite,if_pos (by simpa [Nat.blt_eq] using (List.getElem?_eq_some_iff.1 hσj).1)]
   exact hσj
theorem c56 (ok:EnvOk E) {call:FuncId → List AV → a06 → Option (AV × a06)} (hcall:a3c E call) {F:Frm} {H H':a06} {o:Oper} {v:AV} {l:LogE} (hlow:e.m ≤ m0) (hn0:m0 ≤ H.length)
 (hs:a0z E true call F H o.op = some (v,H',l)) (hd:a6v N o.dst = true) :
 ∃ ov fresh,(a04 H' = fun b=>(ov b).getD (a04 H b)) ∧ H'.length = (bif fresh then H.length + 1 else H.length) ∧ (∀ b,(ov b).isSome = true → b ∈ l.keys) ∧ c2q E e N m0 H.length o (a25 F) (a04 H) v ov fresh l:=by
 unfold a0z at hs
 split at hs
 ·rename_i f args ats hop
  split at hs
  case h_2=>cases hs
  rename_i v' H1 σ hcv
  cases hs
  unfold a0e at hcv
  split at hcv
  case h_2=>cases hcv
  rename_i g fs cs hfv
  -- the operands in another state
  have agree:∀ {C:Nat → Prop} {f':Nat → AV} {h:FHeap} {I:Nat → Prop} {ρ:PMap} {a:Act} {w:World},DNow E e N m0 C f' h I ρ a w → (∀ s ∈ b1z o.op.operands.toList,f' s = a25 F s) →
   ∃ fs' cs',a.eval f = .func (.func g) fs' cs' ∧ VRels I w ρ (fs ++ args.toList.map (opv E F) ++ cs) (fs' ++ args.map a.eval ++ cs').toList:=by
   intro C f' h I ρ a w hnow hf
   have hops:=b7x (E:=E) hf
   rw [hop] at hops
   have hf1:=hnow.opvf f
   rw [← hops f (by simp [Op.operands,Call.operands]),hfv] at hf1
   simp only [VRel] at hf1
   obtain ⟨fs',cs',hfe,hfs,hcs⟩:=hf1
   have hargs:args.toList.map (opv E F) = args.toList.map (opvf E f'):=List.map_congr_left fun x hx=>hops x (by simp [Op.operands,Call.operands];exact .inr (by simpa using hx))
   refine ⟨fs',cs',hfe,?_⟩
   simp only [Array.toList_append,Array.toList_map]
   rw [hargs]
   exact VRels.append (VRels.append hfs (a6f hnow.opvf args.toList)) hcs
  rw [cond_eq_ite] at hcv
  split at hcv
  ·rename_i hext
   split at hcv
   case h_2=>cases hcv
   rename_i v'' hv''
   cases hcv
   refine ⟨fun _=>none,false,rfl,rfl,by simp,?_⟩
   intro C f' h I ρ a w hnow hf hh hC K Q hK
   obtain ⟨fs',cs',hfe,hargs⟩:=agree hnow hf
   obtain ⟨c,hrun,hvc⟩:=b1a (E:=E) (w:=w) ok hext hv'' hargs
   have harr:(fs' ++ args.map a.eval ++ cs').toList.toArray = fs' ++ args.map a.eval ++ cs':=by apply Array.ext';simp
   rw [harr] at hrun
   unfold Oper.wp
   rw [b00 hop hfe,hrun,Oper.upon_value]
   refine hK I ρ _ _ ⟨hnow.imm,hnow.map,hnow.ext,hnow.rel,fun b hb hc=>hnow.nrel b hb (fun h=>hc (.inl h)),hnow.fin,by rw [a9l];exact hnow.size,?_,by rw [a6p];exact hnow.defers⟩
   exact b2b (fun _ _ h=>h) hnow.size hnow.frm hd hvc
  ·rw [cond_eq_ite] at hcv
   split at hcv
   case isFalse=>cases hcv
   rename_i hg
   split at hcv
   case h_2=>cases hcv
   rename_i v'' H2 σ2 hloc
   rw [cond_eq_ite] at hcv
   split at hcv
   case isTrue=>cases hcv
   rename_i hlen
   cases hcv
   by_cases hnew:H'.length = H.length + 1
   ·have hk:b87 (a9j E (opv E F f) H H' σ) σ H.length H'.length = σ ++ [H.length]:=by
     unfold b87
     rw [hnew,cond_eq_ite,if_neg (by rw [Nat.beq_eq];omega)]
    obtain ⟨ov,h1,h2,h3⟩:=d2q (hcall g) hloc hnew
    refine ⟨ov,true,h1,hnew,by rw [hk];exact h2,?_⟩
    intro C f' h I ρ a w hnow hf hh hC K Q hK
    obtain ⟨fs',cs',hfe,hargs⟩:=agree hnow hf
    unfold Oper.wp
    rw [b00 hop hfe,a6a ok hg,Oper.upon_enter]
    have hc:=h3 hnow.rel (hnow.nrel _ hn0 (hC rfl)) hh hargs
    have harr:(fs' ++ args.map a.eval ++ cs').toList.toArray = fs' ++ args.map a.eval ++ cs':=by apply Array.ext';simp
    rw [harr] at hc
    refine hc.mono ?_
    rintro en w' ⟨c,I',ρ',rfl,hI,hext,hρ',hrel,hvc⟩
    obtain ⟨M,hM⟩:=hnow.fin
    have hold:∀ b m,ρ b = some m → ρ' b = some m:=by
     intro b m hb
     rw [hρ' b (fun e=>by rw [e,hnow.nrel _ hn0 (hC rfl)] at hb;cases hb)];exact hb
    refine hK I' ρ' _ _ ⟨fun c hc=>hI c (hnow.imm c hc),fun b hb=>?_,hnow.ext.trans hnow.imm hext,hrel,fun b hb hc=>?_,⟨max M (H.length + 1),fun b hb=>?_⟩,by rw [a9l];exact hnow.size,?_,by rw [a6p];exact hnow.defers⟩
    ·rw [hρ' b (by omega)];exact hnow.map b hb
    ·rw [hρ' b (fun e=>hc (.inr ⟨rfl,e⟩))];exact hnow.nrel b hb (fun h=>hc (.inl h))
    ·rw [hρ' b (by omega)];exact hM b (by omega)
    ·exact b2b (fun v c hv=>VRel.mono hI (fun c hc=>hext.keep c (.inl hc)) v hold hv) hnow.size hnow.frm hd hvc
   have hlen:H'.length = H.length:=by
    simp only [Bool.true_and,Bool.not_eq_true',Bool.not_eq_false,Bool.or_eq_true,Nat.beq_eq] at hlen
    rcases hlen with h|h
    ·exact h
    ·exact absurd h hnew
   have hk:b87 (a9j E (opv E F f) H H' σ) σ H.length H'.length = (bif a9j E (opv E F f) H H' σ then [] else σ):=by
    unfold b87
    rw [hlen,cond_eq_ite,if_pos (by rw [Nat.beq_eq])]
   rw [hk]
   obtain ⟨ov,h1,h2,h3⟩:=c8h (hcall g) hloc hlen
   obtain ⟨ov,h1,h2,h3⟩:∃ ov:Nat → Option (Option AObj),(a04 H' = fun b=>(ov b).getD (a04 H b)) ∧ (∀ b,(ov b).isSome = true → b ∈ (bif a9j E (opv E F f) H H' σ then [] else σ)) ∧
    ∀ {I K:Nat → Prop} {ρ:PMap} {h:FHeap} {w:World} {cargs:List Value},HRel E.G I K ρ h w → (∀ b ∈ σ,h b = a04 H b) → VRels I w ρ (fs ++ args.toList.map (opv E F) ++ cs) cargs →
     Calls E.P g cargs.toArray w fun en w'=>∃ c I',en = .returned c ∧ (∀ c,I c → I' c) ∧ Ext I K w w' ∧ HRel E.G I' K ρ (fun b=>(ov b).getD (h b)) w' ∧ VRel I' w' ρ v c:=by
    cases hro:a9j E (opv E F f) H H' σ with
    | false=>exact ⟨ov,h1,h2,h3⟩
    | true=>
     have hsame:∀ b ∈ σ,a04 H b = a04 H' b:=by
      rw [hfv] at hro
      simp only [a9j,Bool.and_eq_true,List.all_eq_true] at hro
      exact fun b hb=>d0b _ _ (hro.2 b hb)
     have hno:∀ b x,ov b = some x → x = a04 H b:=by
      intro b x hx
      have e1:=hsame b (h2 b (by rw [hx];rfl))
      rw [h1] at e1
      simp only [hx,Option.getD_some] at e1
      exact e1.symm
     refine ⟨fun _=>none,?_,fun b hb=>by simp at hb,?_⟩
     ·rw [h1];funext b
      cases hx:ov b with
      | none=>rfl
      | some x=>simp only [Option.getD_some,Option.getD_none];exact hno b x hx
     ·intro I K ρ h w cargs hrel hh ha
      have e:(fun b=>(ov b).getD (h b)) = h:=by
       funext b
       cases hx:ov b with
       | none=>rfl
       | some x=>simp only [Option.getD_some];rw [hno b x hx,hh b (h2 b (by rw [hx];rfl))]
      refine (h3 hrel hh ha).mono ?_
      rintro en w' ⟨c,I',r1,r2,r3,r4,r5⟩
      rw [e] at r4
      exact ⟨c,I',r1,r2,r3,by simpa using r4,r5⟩
   refine ⟨ov,false,h1,hlen,h2,?_⟩
   intro C f' h I ρ a w hnow hf hh hC K Q hK
   obtain ⟨fs',cs',hfe,hargs⟩:=agree hnow hf
   unfold Oper.wp
   rw [b00 hop hfe,a6a ok hg,Oper.upon_enter]
   have hc:=h3 hnow.rel hh hargs
   have harr:(fs' ++ args.map a.eval ++ cs').toList.toArray = fs' ++ args.map a.eval ++ cs':=by apply Array.ext';simp
   rw [harr] at hc
   refine hc.mono ?_
   rintro en w' ⟨c,I',rfl,hI,hext,hrel,hvc⟩
   refine hK I' ρ _ _ ⟨fun c hc=>hI c (hnow.imm c hc),hnow.map,hnow.ext.trans hnow.imm hext,hrel,fun b hb hc=>hnow.nrel b hb (fun h=>hc (.inl h)),hnow.fin,by rw [a9l];exact hnow.size,?_,by rw [a6p];exact hnow.defers⟩
   exact b2b (fun v c hv=>VRel.mono hI (fun c hc=>hext.keep c (.inl hc)) v (fun _ _ h=>h) hv) hnow.size hnow.frm hd hvc
 ·split at hs
  case h_2=>cases hs
  rename_i v' eff ha
  rw [cond_eq_ite] at hs
  split at hs
  case isFalse=>cases hs
  rename_i hfit
  cases hs
  refine ⟨c4p H.length eff,eff.fresh,d7m hfit,?_,fun b hb=>c6c hb,d30 ok hlow hn0 hd ha⟩
  rw [a9a,cond_eq_ite]
end
end Go.Ax
/- AxDraw3: the whole of a region that draws its order. -/
namespace Go.Ax
section
variable {E:Env} {e:Entry} {N m0:Nat} {ops:Array Oper} {Q:Exit → Act → World → Prop} {f0:Nat → AV} {h0:FHeap}
structure RecOk (E:Env) (e:Entry) (N m0:Nat) (ops:Array Oper) (Q:Exit → Act → World → Prop) (f0:Nat → AV) (h0:FHeap) (p:List Rec) (i:Nat) (r:Rec):Prop where
 dst:∀ o,ops[i]? = some o → r.dst = o.dst
 keys:∀ b,(r.ov b).isSome = true → b ∈ r.log.keys
 good:∀ {C:Nat → Prop} {f:Nat → AV} {h:FHeap} {I:Nat → Prop} {ρ:PMap} {a:Act} {w:World},DNow E e N m0 C f h I ρ a w → (∀ o,ops[i]? = some o → ∀ s ∈ looks ops.toList o,f s = gL fov f0 a3q p s) →
  (∀ b ∈ r.log.needs,h b = gL hov h0 a3q p b) → (r.fresh = true → ¬ C (cnt m0 p)) →
  ∀ {K:Act → World → Prop},(∀ I' ρ' a' w',DNow E e N m0 (fun b=>C b ∨ (r.fresh = true ∧ b = cnt m0 p)) (fun s=>(fov r s).getD (f s)) (fun b=>(hov r b).getD (h b)) I' ρ' a' w' → K a' w') → wpOp E.P ops Q i K a w
def RecsOk (E:Env) (e:Entry) (N m0:Nat) (ops:Array Oper) (Q:Exit → Act → World → Prop) (f0:Nat → AV) (h0:FHeap) (recs:List Rec):Prop:=
 ∀ i r,nth recs i = some r → RecOk E e N m0 ops Q f0 h0 (pre recs i) i r
theorem RecsOk.cons {recs:List Rec} {r:Rec} (h:RecsOk E e N m0 ops Q f0 h0 recs) (hr:RecOk E e N m0 ops Q f0 h0 recs recs.length r):RecsOk E e N m0 ops Q f0 h0 (r :: recs):=by
 intro i r' hi
 unfold nth at hi
 simp only [pre]
 split at hi
 ·rename_i he;cases hi;rw [if_pos he,he];exact hr
 ·rename_i he;rw [if_neg he];exact h i r' hi
theorem c2i:∀ {l:List Rec},m0 ≤ cnt m0 l
 | []=>Nat.le_refl _
 | r :: rest=>by have:=c2i (l:=rest);simp only [cnt,cond_eq_ite];split<;>omega
theorem c0w {I:Nat → Prop} {w:World} {ρ:PMap} {a:Act} {v:AV} {j d:Nat} (hg:a2o ops.toList j = some d) (hv:VRel I w ρ v (a.tmps.getD d undef)) :
 (∀ b,v = .bool b → yielded ops a.tmps j = some b) ∧ (v = .tuple [] → yielded ops a.tmps j = none):=by
 have hd:(ops[j]?).bind (·.dst) = some d:=by simpa [a2o] using hg
 have hget:∀ c,a.tmps.getD d undef = c → c ≠ undef → a.tmps[d]? = some c:=by
  intro c hc hne
  rw [Array.getD_eq_getD_getElem?] at hc
  cases hx:a.tmps[d]? with
  | none=>rw [hx] at hc;exact absurd hc.symm hne
  | some x=>rw [hx] at hc;simpa using hc
 refine ⟨fun b hb=>?_,fun hb=>?_⟩
 ·rw [hb] at hv
  simp only [VRel] at hv
  have:=hget _ hv (by simp [undef])
  simp [yielded,hd,this]
 ·rw [hb] at hv
  simp only [VRel] at hv
  obtain ⟨cs,hc,hcs⟩:=hv
  unfold yielded
  rw [hd]
  simp only [Option.bind_some]
  rw [Array.getD_eq_getD_getElem?] at hc
  cases hx:a.tmps[d]? with
  | none=>rfl
  | some x=>
   rw [hx] at hc
   simp only [Option.getD_some] at hc
   rw [hc]
theorem c6r {o:Oper} {s:Nat} (h:s ∈ b1z o.op.operands.toList):s ∈ looks ops.toList o:=List.mem_append_left _ h
theorem c05 {o:Oper} {j d:Nat} {want:Bool} (hg:o.guard = some (j,want)) (hs:a2o ops.toList j = some d):d ∈ looks ops.toList o:=by
 simp [looks,hg,hs]
theorem a90 (ok:EnvOk E) {call:FuncId → List AV → a06 → Option (AV × a06)} (hcall:a3c E call) (hlow:e.m ≤ m0) {R:Type} {k:Frm → a06 → Option R} {r:R} :
 ∀ (rest:List Oper) (recs:List Rec) (F:Frm) (H:a06),rest = ops.toList.drop recs.length → recs.length + rest.length = ops.size → a25 F = gL fov f0 a3q recs → a04 H = gL hov h0 a3q recs → H.length = cnt m0 recs →
  RecsOk E e N m0 ops Q f0 h0 recs → a2d E true N call ops.toList rest (recs.map (·.log)) F H k = some r →
  ∃ recs' F' H',recs'.length = ops.size ∧ a25 F' = gL fov f0 a3q recs' ∧ a04 H' = gL hov h0 a3q recs' ∧ H'.length = cnt m0 recs' ∧ RecsOk E e N m0 ops Q f0 h0 recs' ∧
   logOk ops.toList (recs'.map (·.log)).length (recs'.map (·.log)) = true ∧ k F' H' = some r
 | [],recs,F,H,_,hlen,hF,hH,hn,hrecs,hrun=>by
  simp only [a2d,Bool.not_true,Bool.false_or] at hrun
  rw [cond_eq_ite] at hrun
  split at hrun
  case isFalse=>cases hrun
  rename_i hlog
  exact ⟨recs,F,H,by simpa using hlen,hF,hH,hn,hrecs,hlog,hrun⟩
 | o :: rest,recs,F,H,hrest,hlen,hF,hH,hn,hrecs,hrun=>by
  have ho:ops[recs.length]? = some o:=by
   have:(ops.toList.drop recs.length)[0]? = some o:=by rw [← hrest];rfl
   rw [List.getElem?_drop] at this
   simpa using this
  have hrest':rest = ops.toList.drop (recs.length + 1):=by
   have:(ops.toList.drop recs.length).drop 1 = rest:=by rw [← hrest];rfl
   rw [List.drop_drop] at this
   exact this.symm
  unfold a2d at hrun
  rw [cond_eq_ite] at hrun
  split at hrun
  case isFalse=>cases hrun
  rename_i hd
  simp only [List.length_cons] at hlen
  -- a step that is executed,and one that is not
  have exec:∀ F0,a25 F0 = a25 F → (match a0z E true call F0 H o.op with
   | some (v,H',l)=>a2d E true N call ops.toList rest (l :: recs.map (·.log)) (a3h F0 o.dst v) H' k
   | none=>none) = some r →
   (∀ {I:Nat → Prop} {w:World} {ρ:PMap} {a:Act} {f:Nat → AV},(∀ s ∈ looks ops.toList o,f s = gL fov f0 a3q recs s) → (∀ s,VRel I w ρ (f s) (a.tmps.getD s undef)) → Region.wanted o (yielded ops a.tmps) = true) →
   ∃ recs' F' H',recs'.length = ops.size ∧ a25 F' = gL fov f0 a3q recs' ∧ a04 H' = gL hov h0 a3q recs' ∧ H'.length = cnt m0 recs' ∧ RecsOk E e N m0 ops Q f0 h0 recs' ∧
    logOk ops.toList (recs'.map (·.log)).length (recs'.map (·.log)) = true ∧ k F' H' = some r:=by
   intro F0 hF0 hr hw
   split at hr
   case h_2=>cases hr
   rename_i v H' l hs
   obtain ⟨ov,fresh,h1,h2,h3,h4⟩:=c56 (e:=e) (N:=N) (m0:=m0) ok hcall hlow (by rw [hn];exact c2i) hs hd
   refine a90 ok hcall hlow rest (⟨o.dst,v,ov,fresh,l⟩ :: recs) (a3h F0 o.dst v) H' (by simpa using hrest') (by simp only [List.length_cons];omega) ?_ ?_ ?_ (hrecs.cons ?_) hr
   ·simp only [gL,a3q,if_true]
    rw [← hF,← hF0]
    funext s
    cases hdst:o.dst with
    | none=>simp [a3h,fov]
    | some d=>rw [a84];simp only [fov,Option.some.injEq];split<;>rfl
   ·simp only [gL,a3q,if_true]
    rw [← hH];exact h1
   ·simp only [cnt];rw [← hn];exact h2
   ·refine ⟨fun o' ho'=>by rw [ho] at ho';cases ho';rfl,h3,?_⟩
    intro C f h I ρ a w hnow hf hh hC K hK
    have hf:=hf o ho
    unfold wpOp
    simp only [ho]
    rw [if_pos (hw hf hnow.frm)]
    refine .inl (h4 hnow (fun s hs=>by rw [hf s (c6r hs),hF0,hF]) (fun b hb=>by rw [hh b hb,hH]) (by rw [hn];exact hC) ?_)
    rw [hn]
    exact hK
  have skip:∀ F0,a25 F0 = a25 F → a2d E true N call ops.toList rest (⟨[],[]⟩ :: recs.map (·.log)) (a3h F0 o.dst (.tuple [])) H k = some r →
   (∀ {I:Nat → Prop} {w:World} {ρ:PMap} {a:Act} {f:Nat → AV},(∀ s ∈ looks ops.toList o,f s = gL fov f0 a3q recs s) → (∀ s,VRel I w ρ (f s) (a.tmps.getD s undef)) → Region.wanted o (yielded ops a.tmps) = false) →
   ∃ recs' F' H',recs'.length = ops.size ∧ a25 F' = gL fov f0 a3q recs' ∧ a04 H' = gL hov h0 a3q recs' ∧ H'.length = cnt m0 recs' ∧ RecsOk E e N m0 ops Q f0 h0 recs' ∧
    logOk ops.toList (recs'.map (·.log)).length (recs'.map (·.log)) = true ∧ k F' H' = some r:=by
   intro F0 hF0 hr hw
   refine a90 ok hcall hlow rest (⟨o.dst,.tuple [],fun _=>none,false,⟨[],[]⟩⟩ :: recs) (a3h F0 o.dst (.tuple [])) H (by simpa using hrest') (by simp only [List.length_cons];omega) ?_ ?_ ?_ (hrecs.cons ?_) hr
   ·simp only [gL,a3q,if_true]
    rw [← hF,← hF0]
    funext s
    cases hdst:o.dst with
    | none=>simp [a3h,fov]
    | some d=>rw [a84];simp only [fov,Option.some.injEq];split<;>rfl
   ·simp only [gL,a3q,if_true]
    rw [← hH];rfl
   ·simp only [cnt];exact hn
   ·refine ⟨fun o' ho'=>by rw [ho] at ho';cases ho';rfl,by simp,?_⟩
    intro C f h I ρ a w hnow hf hh hC K hK
    have hf:=hf o ho
    unfold wpOp
    simp only [ho]
    rw [if_neg (by rw [hw hf hnow.frm];simp)]
    refine hK I ρ _ _ ⟨hnow.imm,hnow.map,hnow.ext,hnow.rel,fun b hb hc=>hnow.nrel b hb (fun h=>hc (.inl h)),hnow.fin,by rw [a9l];exact hnow.size,?_,by rw [a6p];exact hnow.defers⟩
    exact b2b (fun _ _ h=>h) hnow.size hnow.frm hd (by simp only [VRel,undef];exact ⟨#[],rfl,by simp [VRels]⟩)
  split at hrun
  ·rename_i hg
   exact exec F rfl hrun (fun _ _=>by simp [Region.wanted,hg])
  ·rename_i j want hg
   split at hrun
   case h_1=>cases hrun
   rename_i d hgs
   have hdl:=c05 (o:=o) hg hgs
   split at hrun
   ·rename_i b hb
    have hw:∀ {I:Nat → Prop} {w:World} {ρ:PMap} {a:Act} {f:Nat → AV},(∀ s ∈ looks ops.toList o,f s = gL fov f0 a3q recs s) → (∀ s,VRel I w ρ (f s) (a.tmps.getD s undef)) → Region.wanted o (yielded ops a.tmps) = (b == want):=by
     intro I w ρ a f hf hv
     have hfd:f d = .bool b:=by rw [hf d hdl,← hF,hb]
     have:=(c0w hgs (hv d)).1 b hfd
     simp [Region.wanted,hg,this]
    have hset:a25 (a3h F (some d) (.bool b)) = a25 F:=by
     funext s
     rw [a84]
     split
     ·rename_i hs;rw [← hs,hb]
     ·rfl
    cases b
    ·simp only [cond_false] at hrun
     cases want
     ·simp only [cond_false] at hrun
      exact exec _ hset hrun (fun hf hv=>by rw [hw hf hv];rfl)
     ·simp only [cond_true] at hrun
      exact skip _ hset hrun (fun hf hv=>by rw [hw hf hv];rfl)
    ·simp only [cond_true] at hrun
     cases want
     ·simp only [cond_false] at hrun
      exact skip _ hset hrun (fun hf hv=>by rw [hw hf hv];rfl)
     ·simp only [cond_true] at hrun
      exact exec _ hset hrun (fun hf hv=>by rw [hw hf hv];rfl)
   ·rename_i hb
    refine skip F rfl hrun (fun {I w ρ a f} hf hv=>?_)
    have hfd:f d = .tuple []:=by rw [hf d hdl,← hF,hb]
    have:=(c0w hgs (hv d)).2 hfd
    simp [Region.wanted,hg,this]
   ·cases hrun
theorem a4g {recs:List Rec}:∀ {i:Nat} {r:Rec},nth recs i = some r → nth (recs.map (·.log)) i = some r.log:=by
 induction recs with
 | nil=>intro i r h;simp [nth] at h
 | cons a rest ih=>
  intro i r h
  unfold nth at h
  simp only [List.map_cons,nth,List.length_map]
  split at h
  ·rename_i hi;cases h;rw [if_pos hi]
  ·rename_i hi;rw [if_neg hi];exact ih h
theorem b2k {a b:List Nat} {x:Nat} (h1:x ∈ a) (h2:x ∈ b):b2l a b = true:=by
 simp only [b2l,List.any_eq_true,a2m]
 exact ⟨x,h1,h2⟩
theorem DNow.weaken {C C':Nat → Prop} {f:Nat → AV} {h:FHeap} {I:Nat → Prop} {ρ:PMap} {a:Act} {w:World} (d:DNow E e N m0 C f h I ρ a w) (hC:∀ b,C b → C' b):DNow E e N m0 C' f h I ρ a w:=
 { d with nrel:=fun b hb hc=>d.nrel b hb (fun h=>hc (hC b h)) }
theorem b4q {S:Nat → Bool} {b:Nat}:∀ {l:List Rec},c1q m0 S l b → c1q m0 a3q l b
 | [],h=>h
 | _ :: _,h=>h.imp (fun ⟨_,h2⟩=>⟨rfl,h2⟩) b4q
theorem d2a (hst:c2e ops.toList = true) {recs:List Rec} (hlen:recs.length = ops.size) (hrecs:RecsOk E e N m0 ops Q f0 h0 recs) (hlog:logOk ops.toList (recs.map (·.log)).length (recs.map (·.log)) = true)
 (hQ:∀ I ρ a w,DNow E e N m0 (c1q m0 a3q recs) (gL fov f0 a3q recs) (gL hov h0 a3q recs) I ρ a w → Q .normal a w) :
 ∀ (fuel:Nat) (listed:Array Bool) (I:Nat → Prop) (ρ:PMap) (a:Act) (w:World),listed.size = ops.size → ((List.range ops.size).filter fun i=>!listed.getD i false).length ≤ fuel →
  (∀ j,listed.getD j false = true → a7h ops.toList (fun i=>listed.getD i false) j) →
  DNow E e N m0 (c1q m0 (fun i=>listed.getD i false) recs) (gL fov f0 (fun i=>listed.getD i false) recs) (gL hov h0 (fun i=>listed.getD i false) recs) I ρ a w →
  wpAny E.P .any ops Q fuel listed a w:=by
 have done:∀ (listed:Array Bool) (I:Nat → Prop) (ρ:PMap) (a:Act) (w:World),(∀ i,i < ops.size → listed.getD i false = true) →
  DNow E e N m0 (c1q m0 (fun i=>listed.getD i false) recs) (gL fov f0 (fun i=>listed.getD i false) recs) (gL hov h0 (fun i=>listed.getD i false) recs) I ρ a w → Q .normal a w:=by
  intro listed I ρ a w hall hnow
  have hsame:∀ j,j < recs.length → (fun i=>listed.getD i false) j = a3q j:=fun j hj=>by rw [hlen] at hj;exact hall j hj
  rw [b6g hsame,b6g hsame] at hnow
  exact hQ I ρ a w (hnow.weaken fun b=>b4q)
 intro fuel
 induction fuel with
 | zero=>
  intro listed I ρ a w hsz hcount hcl hnow
  have hall:∀ i,i < ops.size → listed.getD i false = true:=by
   intro i hi
   cases hx:listed.getD i false with
   | true=>rfl
   | false=>
    have:i ∈ (List.range ops.size).filter fun i=>!listed.getD i false:=by
     rw [List.mem_filter,List.mem_range];exact ⟨hi,by rw [hx];rfl⟩
    have:=List.length_pos_of_mem this
    omega
  have hready:Region.ready .any ops listed = []:=by
   cases hr:Region.ready .any ops listed with
   | nil=>rfl
   | cons i rest=>
    have:i ∈ Region.ready .any ops listed:=by rw [hr];simp
    obtain ⟨h1,o,h2,_⟩:=mem_ready.1 this
    have hi:=(Array.getElem?_eq_some_iff.1 h2).1
    have:=hall i hi
    simp only [Array.getD_eq_getD_getElem?,Array.getElem?_eq_getElem (show i < listed.size by omega),Option.getD_some] at h1 this
    rw [this] at h1;cases h1
  exact ⟨hready,done listed I ρ a w hall hnow⟩
 | succ fuel ih=>
  intro listed I ρ a w hsz hcount hcl hnow
  refine ⟨fun hready=>done listed I ρ a w ?_ hnow,fun i hi=>?_⟩
  ·intro i
   induction i using Nat.strongRecOn with
   | _ i ihi=>
    intro hi
    cases hx:listed.getD i false with
    | true=>rfl
    | false=>
     exfalso
     have hmem:i ∈ Region.ready .any ops listed:=by
      refine mem_ready.2 ⟨?_,ops[i],by simp [hi],fun e he hb=>?_⟩
      ·simpa only [Array.getD_eq_getD_getElem?,Array.getElem?_eq_getElem (show i < listed.size by omega),Option.getD_some] using hx
      ·have:=(b03 hst (j:=i) (y:=ops[i]) (by simp [hi])).1 e (by simpa using he) hb
       exact ihi e.on this (by omega)
     rw [hready] at hmem;cases hmem
  ·obtain ⟨h1,o,ho,hedges⟩:=mem_ready.1 hi
   have hi':=(Array.getElem?_eq_some_iff.1 ho).1
   have hol:ops.toList[i]? = some o:=by simpa using ho
   generalize hS:(fun i=>listed.getD i false) = S at hcl hnow
   have hSi:S i = false:=by
    rw [← hS]
    simp only [Array.getD_eq_getD_getElem?,Array.getElem?_eq_getElem (show i < listed.size by omega),Option.getD_some] at h1 ⊢
    exact h1
   have hcl':∀ j,S j = true → a7h ops.toList S j:=by intro j hj;rw [← hS] at hj;exact hcl j hj
   have hcli:a7h ops.toList S i:=by
    intro o' ho' e he hb
    rw [hol] at ho';cases ho'
    rw [← hS];exact hedges e (by simpa using he) hb
   obtain ⟨r,hr⟩:=c1k (l:=recs) (i:=i) (by omega)
   have hro:=hrecs i r hr
   have opAt:∀ j r',nth recs j = some r' → ∃ o',ops.toList[j]? = some o' ∧ r'.dst = o'.dst:=by
    intro j r' hj
    have hjl:=b2h hj
    have:ops[j]? = some ops[j]:=by simp
    exact ⟨ops[j],by simp,(hrecs j r' hj).dst _ this⟩
   have before:∀ j,a3x ops.toList j i = true → S j = true:=fun j h=>b4o hcl' hcli h
   have after:∀ j,a3x ops.toList i j = true → S j = false:=by
    intro j h
    cases hx:S j with
    | false=>rfl
    | true=>rw [b4o hcl' (hcl' j hx) h] at hSi;cases hSi
   refine hro.good hnow ?_ ?_ ?_ ?_
   ·intro o' ho' s hs
    rw [ho] at ho';cases ho'
    refine d74 hr fun j r' hj hd=>?_
    obtain ⟨oj,hoj,hdj⟩:=opAt j r' hj
    have hds:oj.dst = some s:=by
     rw [← hdj];unfold fov at hd;split at hd
     ·assumption
     ·simp at hd
    refine ⟨fun hji=>before j ?_,fun hij=>?_⟩
    ·refine (b03 hst hol).2 j oj hoj hji ?_
     simp only [a5k,hds,Bool.or_eq_true,List.contains_iff_mem]
     exact .inl (.inl hs)
    ·rcases Nat.lt_or_eq_of_le hij with hlt|rfl
     ·refine after j ((b03 hst hoj).2 i o hol hlt ?_)
      simp only [a5k,hds,Bool.or_eq_true,List.contains_iff_mem]
      exact .inl (.inr hs)
     ·exact hSi
   ·intro b hb
    refine d74 hr fun j r' hj hd=>?_
    have hkey:=(hrecs j r' hj).keys b hd
    refine ⟨fun hji=>before j ?_,fun hij=>?_⟩
    ·refine b1p hlog j i _ _ hji (a4g hj) (a4g hr) ?_
     simp only [LogE.clash,b2k hkey hb,Bool.true_or]
    ·rcases Nat.lt_or_eq_of_le hij with hlt|rfl
     ·refine after j (b1p hlog i j _ _ hlt (a4g hr) (a4g hj) ?_)
      simp only [LogE.clash,b2k hb hkey,Bool.or_true]
     ·exact hSi
   ·intro hf hm
    rw [c6q hr hf hm] at hSi;cases hSi
   ·intro I' ρ' a' w' hnow'
    have hS':(fun j=>(listed.setIfInBounds i true).getD j false) = b7t S i:=by
     funext j
     rw [← hS]
     simp only [b7t,Array.getD_eq_getD_getElem?,Array.getElem?_setIfInBounds]
     by_cases hij:i = j
     ·subst hij;simp [show i < listed.size by omega]
     ·rw [if_neg hij,beq_eq_false_iff_ne.2 (Ne.symm hij),Bool.false_or]
    refine ih _ I' ρ' a' w' (by simpa using hsz) ?_ ?_ ?_
    ·have hfil:((List.range ops.size).filter fun j=>!(listed.setIfInBounds i true).getD j false) = ((List.range ops.size).filter fun j=>!listed.getD j false).filter fun j=>!(j == i):=by
      rw [List.filter_filter]
      refine List.filter_congr fun j _=>?_
      have h1:=congrFun hS' j
      have h2:=congrFun hS j
      rw [h1,h2]
      simp [b7t]
     rw [hfil]
     have:(((List.range ops.size).filter fun j=>!listed.getD j false).filter fun j=>!(j == i)).length < ((List.range ops.size).filter fun j=>!listed.getD j false).length:=by
      refine List.length_filter_lt_length_iff_exists.2 ⟨i,?_,by simp⟩
      rw [List.mem_filter,List.mem_range]
      refine ⟨hi',?_⟩
      have h2:=congrFun hS i
      rw [h2,hSi];rfl
     omega
    ·rw [hS']
     have hmono:∀ j,a7h ops.toList S j → a7h ops.toList (b7t S i) j:=fun j h o ho e he hb=>by simp [b7t,h o ho e he hb]
     intro j hj
     have hj:b7t S i j = true:=by rw [← hS'];exact hj
     simp only [b7t,Bool.or_eq_true,beq_iff_eq] at hj
     rcases hj with rfl|hj
     ·exact hmono _ hcli
     ·exact hmono _ (hcl' j hj)
    ·rw [hS']
     rw [c7m hr hSi ?_,c7m hr hSi ?_]
     ·exact hnow'.weaken fun b hb=>b80 hr hb
     ·intro k r' hk hik hSk s hs
      cases hx:hov r' s with
      | none=>rfl
      | some ob=>
       have h1:=hro.keys s hs
       have h2:=(hrecs k r' hk).keys s (by unfold hov at hx;rw [hx];rfl)
       have:=after k (b1p hlog i k _ _ hik (a4g hr) (a4g hk) (by simp only [LogE.clash,b2k h1 h2,Bool.or_true,Bool.true_or]))
       rw [hSk] at this;cases this
     ·intro k r' hk hik hSk s hs
      cases hx:fov r' s with
      | none=>rfl
      | some v=>
       obtain ⟨ok,hok,hdk⟩:=opAt k r' hk
       have h1:o.dst = some s:=by
        rw [← hro.dst o ho];unfold fov at hs;split at hs
        ·assumption
        ·simp at hs
       have h2:ok.dst = some s:=by
        rw [← hdk];unfold fov at hx;split at hx
        ·assumption
        ·cases hx
       have:=after k ((b03 hst hok).2 i o hol hik (by simp [a5k,h1,h2]))
       rw [hSk] at this;cases this
theorem b9s (ok:EnvOk E) {call:FuncId → List AV → a06 → Option (AV × a06)} (hcall:a3c E call) {R:Type} {k:Frm → a06 → Option R} {r:R} {F:Frm} {H:a06} {I:Nat → Prop} {ρ:PMap} {a:Act} {w:World}
 (hst:c2e ops.toList = true) (hQ:∀ F H I ρ a w,Now E e N F H I ρ a w → k F H = some r → Q .normal a w) (hnow:Now E e N F H I ρ a w) (hrun:a2d E true N call ops.toList ops.toList [] F H k = some r) (id:Nat) :
 (Code.region id ops true).wp E.P Q a w:=by
 refine wp_region_any ok.mixed ?_
 obtain ⟨recs,F',H',h1,h2,h3,h4,h5,h6,h7⟩:=a90 (e:=e) (N:=N) (m0:=H.length) (Q:=Q) (f0:=a25 F) (h0:=a04 H) ok hcall hnow.low ops.toList [] F H (by simp) (by simp) rfl rfl rfl (fun i r h=>by simp [nth] at h) hrun
 have hfalse:∀ i,(Array.replicate ops.size false).getD i false = false:=by
  intro i
  simp only [Array.getD_eq_getD_getElem?,Array.getElem?_replicate]
  split<;>rfl
 have hnone:∀ {V:Type} (o:Rec → Nat → Option V) (g0:Nat → V) (l:List Rec),gL o g0 (fun i=>(Array.replicate ops.size false).getD i false) l = g0:=by
  intro V o g0 l
  induction l with
  | nil=>rfl
  | cons a rest ih=>unfold gL;rw [if_neg (by rw [hfalse];simp)];exact ih
 refine d2a hst h1 h5 h6 ?_ ops.size _ I ρ a _ (by simp) ?_ ?_ ?_
 ·intro I' ρ' a' w' hd
  refine hQ F' H' I' ρ' a' w' ⟨hd.imm,hd.map,hd.ext,?_,?_,⟨hd.size,fun s=>by rw [h2];exact hd.frm s⟩,?_,hd.defers⟩ h7
  ·rw [h3];exact hd.rel
  ·intro b hb
   have hge:H.length ≤ cnt H.length recs:=c2i
   refine hd.nrel b (by omega) (fun hm=>?_)
   have:=c03 hm
   omega
  ·have hge:H.length ≤ cnt H.length recs:=c2i
   have:=hnow.low
   omega
 ·refine Nat.le_trans (List.length_filter_le _ _) (by simp)
 ·intro j hj
  have:=hfalse j
  rw [this] at hj;cases hj
 ·have hdrew:=hnow.drew
  rw [hnone,hnone]
  exact ⟨hdrew.imm,hdrew.map,hdrew.ext,hdrew.rel,fun b hb _=>hdrew.nrel b hb,⟨_,hdrew.nrel⟩,hdrew.frm.1,hdrew.frm.2,hdrew.defers⟩
end
end Go.Ax
/- AxCode: statements. -/
namespace Go.Ax
def a26:Code → Bool
 | .region _ ops draw=>bif draw then c2e ops.toList else true
 | .seq a b=>a26 a && a26 b
 | .cond _ a b=>a26 a && a26 b
 | .block _ b=>a26 b
 | .loop b=>a26 b
 | .scope b=>a26 b
 | _=>true
def AExit.conv:AExit → Exit
 | .normal=>.normal
 | .exit id=>.exit id
 | .ret=>.ret
section
variable {E:Env}
theorem c8a (ok:EnvOk E) {call:FuncId → List AV → a06 → Option (AV × a06)} (hcall:a3c E call) {e:Entry} {N lf:Nat} {keep:Nat → List Nat} {R:Type}:∀ (c:Code),a26 c = true →
 ∀ {cur:Nat} {k:AExit → Frm → a06 → Option R} {r:R} {Q:Exit → Act → World → Prop},(∀ x F H I ρ a w,Now E e N F H I ρ a w → k x F H = some r → Q x.conv a w) →
 ∀ {F:Frm} {H:a06} {I:Nat → Prop} {ρ:PMap} {a:Act} {w:World},Now E e N F H I ρ a w → a6b E e.m N keep call lf cur c F H k = some r → c.wp E.P Q a w:=by
 intro c
 induction c with
 | skip=>intro _ cur k r Q hQ F H I ρ a w hnow hrun;exact wp_skip (hQ .normal F H I ρ a w hnow hrun)
 | label l=>intro _ cur k r Q hQ F H I ρ a w hnow hrun;exact wp_label (hQ .normal F H I ρ a w hnow hrun)
 | exit id=>intro _ cur k r Q hQ F H I ρ a w hnow hrun;exact wp_exit (hQ (.exit id) F H I ρ a w hnow hrun)
 | ret=>intro _ cur k r Q hQ F H I ρ a w hnow hrun;exact wp_ret (hQ .ret F H I ρ a w hnow hrun)
 | region id ops draw=>
  intro hst cur k r Q hQ F H I ρ a w hnow hrun
  have hQ':∀ F H I ρ a w,Now E e N F H I ρ a w → k .normal F H = some r → Q .normal a w:=fun F H I ρ a w h hk=>hQ .normal _ H I ρ a w h hk
  cases draw with
  | true=>exact b9s (ops:=ops) ok hcall hst hQ' hnow hrun id
  | false=>
   refine wp_region ?_
   have:=b4d ok hcall (ops:=ops) hQ' ops.toList 0 [] F H I ρ a w rfl hnow hrun
   rw [List.range_eq_range',← Array.length_toList];exact this
 | seq x y ihx ihy=>
  intro hst cur k r Q hQ F H I ρ a w hnow hrun
  simp only [a26,Bool.and_eq_true] at hst
  refine wp_seq (ihx hst.1 ?_ hnow hrun)
  intro x F H I ρ a w hn hk
  cases x with
  | normal=>exact ihy hst.2 hQ hn hk
  | exit id=>exact hQ (.exit id) F H I ρ a w hn hk
  | ret=>exact hQ .ret F H I ρ a w hn hk
 | cond c x y ihx ihy=>
  intro hst cur k r Q hQ F H I ρ a w hnow hrun
  simp only [a26,Bool.and_eq_true] at hst
  unfold a6b at hrun
  split at hrun
  case h_2=>cases hrun
  rename_i t ht
  have hc:=c1j hnow.rel hnow.frm c
  rw [ht] at hc
  simp only [VRel] at hc
  cases t
  ·exact wp_cond_false hc (ihy hst.2 hQ hnow hrun)
  ·exact wp_cond_true hc (ihx hst.1 hQ hnow hrun)
 | block id b ih=>
  intro hst cur k r Q hQ F H I ρ a w hnow hrun
  refine wp_block (ih hst ?_ hnow hrun)
  intro x F H I ρ a w hn hk
  cases x with
  | normal=>exact hQ .normal F H I ρ a w hn hk
  | exit id'=>
   simp only [AExit.conv,Exit.inBlock]
   dsimp only at hk
   rw [cond_eq_ite] at hk
   split at hk
   ·rename_i h;rw [if_pos (by simpa using h)];exact hQ .normal F H I ρ a w hn hk
   ·rename_i h;rw [if_neg (by simpa using h)];exact hQ (.exit id') F H I ρ a w hn hk
  | ret=>exact hQ .ret F H I ρ a w hn hk
 | loop b ih=>
  intro hst cur k r Q hQ F H I ρ a w hnow hrun
  refine c4w (n:=lf) (fun n a w=>∃ F H I ρ,Now E e N F H I ρ a w ∧ b1e e.m (keep cur) (fun F H k=>a6b E e.m N keep call lf cur b F H k) n F H (fun x F H=>bif c9i (keep cur) then k x (c0d e.m H F) (c0c e.m H) else k x F H) = some r) ?_ ?_ ⟨F,H,I,ρ,hnow,hrun⟩
  ·rintro n a w ⟨F,H,I,ρ,hnow,hrun⟩
   unfold b1e at hrun
   dsimp only at hrun
   rw [cond_eq_ite] at hrun
   split at hrun
   case isFalse=>cases hrun
   rename_i hc
   simp only [Bool.and_eq_true,List.all_eq_true,Nat.ble_eq] at hc
   obtain ⟨ρ',hn'⟩:=(hnow.keep (keep cur)).gc (b1n hc.1.1) hc.1.2
   refine ih hst ?_ hn' hrun
   intro x F H I ρ a w hn hk
   have hz:∀ x,(bif c9i (keep cur) then k x (c0d e.m H F) (c0c e.m H) else k x F H) = some r → Q x.conv a w:=by
    intro x hk
    rw [cond_eq_ite] at hk
    split at hk
    ·obtain ⟨I',ρ',h'⟩:=hn.frz;exact hQ x _ _ I' ρ' a w h' hk
    ·exact hQ x F H I ρ a w hn hk
   cases x with
   | normal=>exact ⟨F,H,I,ρ,hn,hk⟩
   | exit id=>exact hz _ hk
   | ret=>exact hz _ hk
  ·rintro a w ⟨F,H,I,ρ,_,hrun⟩
   simp [b1e] at hrun
 | scope b ih=>
  intro hst cur k r Q hQ F H I ρ a w hnow hrun
  refine wp_scope_straight (ih hst ?_ hnow hrun)
  intro x F H I ρ a w hn hk
  cases x with
  | normal=>exact hQ .normal F H I ρ a w hn hk
  | exit id=>exact hQ (.exit id) F H I ρ a w hn hk
  | ret=>exact hQ .ret F H I ρ a w hn hk
 | rangeFunc f ps as b=>intro _ cur k r Q hQ F H I ρ a w hnow hrun;simp [a6b] at hrun
 | goto l=>intro _ cur k r Q hQ F H I ρ a w hnow hrun;simp [a6b] at hrun
 | refuse s=>intro _ cur k r Q hQ F H I ρ a w hnow hrun;simp [a6b] at hrun
end
end Go.Ax
/- AxFun: functions. -/
namespace Go.Ax
section
variable {E:Env} {I K:Nat → Prop} {ρ:PMap} {h:FHeap} {w:World}
theorem c92 (ok:EnvOk E) (r:HRel E.G I K ρ h w) {t:TypeId} {p v:AV} {c:Value} (hl:a7g E h t p = some v) (hp:VRel I w ρ p c) :
 ∃ a d,c = .pointer (some a) ∧ (loadVar t a).run E.P w = .ok d w ∧ VRel I w ρ v d:=by
 cases p with
 | ptr b i o=>
  simp only [a7g] at hl
  cases hb:h b with
  | none=>simp [hb] at hl
  | some ob=>
   cases ob with
   | row k rows=>
    simp only [hb] at hl
    cases hr:rows[i]? with
    | none=>simp [hr] at hl
    | some rw'=>
     simp only [hr] at hl
     obtain ⟨m,hm,_,_,ho⟩:=r.live b _ hb
     obtain ⟨hk,hk0,_,hrows⟩:=ho
     obtain ⟨hlen,hat⟩:=VRows.get i hrows hr
     simp only [VRel] at hp
     obtain ⟨m',hm',rfl⟩:=hp
     obtain rfl:m = m':=z9o (hm.symm.trans hm')
     by_cases hsz:o ≤ rw'.length
     ·have hat':VAt I w ρ ((rw'.drop o).take (E.sz t)) m.blk (m.off + i * m.k + o):=by
       rw [hk];exact VAt.take _ (VAt.drop o hsz hat)
      obtain ⟨c,hc,hv⟩:=a70 ok hl hat'
      exact ⟨_,c,rfl,hc,hv⟩
     ·have:rw'.drop o = []:=List.drop_eq_nil_of_le (by omega)
      rw [this] at hl
      unfold a2e at hl
      simp only [List.take_nil,List.length_nil] at hl
      rw [cond_eq_ite] at hl
      split at hl
      ·rename_i h0
       cases hd:E.und t with
       | none=>simp [hd] at hl
       | some d=>
        simp only [hd] at hl
        have h0:E.sz t = 0:=(show 0 = E.sz t by simpa using h0).symm
        cases hag:a28 d with
        | true=>
         simp [hag] at hl;subst hl
         refine ⟨_,.agg #[],rfl,?_,by simp only [VRel];exact ⟨#[],rfl,by simp [VRels]⟩⟩
         simp [loadVar,b26 ok w hd,hag,a2w ok w hd,h0,loadCells,loadCellsFrom]
        | false=>simp [hag] at hl
      ·cases hl
   | map ks vs bs cl=>simp [hb] at hl
   | siter s pos=>simp [hb] at hl
 | iptr cs=>
  simp only [a7g] at hl
  simp only [VRel] at hp
  obtain ⟨b,off,rfl,hI,hat⟩:=hp
  obtain ⟨c,hc,hv⟩:=a70 ok hl (VAt.take _ hat)
  exact ⟨_,c,rfl,hc,VRel.noRef_any hv⟩
 | _=>simp [a7g] at hl
def e3j (tmps:Array Value):ResultVar → Sem Value:=fun
 | .tmp t=>pure (tmps.getD t undef)
 | .cell a t=>do loadVar t (← asAddr (tmps.getD a undef))
theorem a9c (ok:EnvOk E) {H:a06} {F:Frm} {tmps:Array Value} (r:HRel E.G I K ρ (a04 H) w) (hF:∀ s,VRel I w ρ (a25 F s) (tmps.getD s undef)) :
 ∀ (rs:List ResultVar) {vs:List AV},a1b E F H rs = some vs → ∃ cs:List Value,(rs.mapM (e3j tmps)).run E.P w = .ok cs w ∧ VRels I w ρ vs cs
 | [],vs,ha=>by
  simp only [a1b,Option.some.injEq] at ha;subst ha
  exact ⟨[],by simp,by simp [VRels]⟩
 | .tmp t :: rs,vs,ha=>by
  unfold a1b at ha
  split at ha
  case h_2=>cases ha
  rename_i vs' h1
  cases ha
  obtain ⟨cs,h2,h3⟩:=a9c ok r hF rs h1
  refine ⟨tmps.getD t undef :: cs,?_,by simp only [VRels];exact ⟨_,_,rfl,hF t,h3⟩⟩
  simp only [List.mapM_cons,e3j,Sem.run_bind,Sem.run_pure,Result.andThen_ok,h2]
 | .cell a t :: rs,vs,ha=>by
  unfold a1b at ha
  split at ha
  case h_2=>cases ha
  rename_i v vs' h0 h1
  cases ha
  obtain ⟨cs,h2,h3⟩:=a9c ok r hF rs h1
  obtain ⟨ad,d,h4,h5,h6⟩:=c92 ok r h0 (hF a)
  refine ⟨d :: cs,?_,by simp only [VRels];exact ⟨_,_,rfl,h6,h3⟩⟩
  simp only [List.mapM_cons,e3j,h4,asAddr,Sem.run_bind,Sem.run_pure,Result.andThen_ok,h2,h5]
theorem b4g (ok:EnvOk E) {fn:Func} {H:a06} {F:Frm} {tmps:Array Value} (r:HRel E.G I K ρ (a04 H) w) (hF:∀ s,VRel I w ρ (a25 F s) (tmps.getD s undef)) {vs:List AV} (ha:a1b E F H fn.results.toList = some vs) :
 ∃ c,(results fn tmps).run E.P w = .ok c w ∧ VRel I w ρ (a45 vs) c:=by
 obtain ⟨cs,h1,h2⟩:=a9c ok r hF _ ha
 have hrun:(results fn tmps).run E.P w = .ok (if h:cs.toArray.size = 1 then cs.toArray[0] else .tuple cs.toArray) w:=by
  have:results fn tmps = (do let vs ← fn.results.mapM (e3j tmps);pure (if h:vs.size = 1 then vs[0] else .tuple vs)):=rfl
  rw [this,Array.mapM_eq_mapM_toList]
  simp only [bind_map_left,Sem.run_bind,h1,Result.andThen_ok,Sem.run_pure]
 refine ⟨_,hrun,?_⟩
 match vs,cs,h2 with
 | [],cs,h2=>
  simp only [VRels] at h2;subst h2
  simp only [a45,VRel];exact ⟨#[],by simp,by simp [VRels]⟩
 | [v],cs,h2=>
  simp only [VRels] at h2
  obtain ⟨c,cs',rfl,h3,rfl⟩:=h2
  simpa [a45] using h3
 | v :: v' :: vs,cs,h2=>
  have h2':=h2
  simp only [VRels] at h2
  obtain ⟨c,_,rfl,_,c',cs',rfl,_,_⟩:=h2
  simp only [a45,VRel]
  exact ⟨_,by simp,h2'⟩
theorem b52:∀ (args:List AV) (i s:Nat),a25 (a3n i args) s = if i ≤ s then (args[s - i]?).getD .junk else .junk
 | [],i,s=>by simp [a3n,a25]
 | v :: vs,i,s=>by
  simp only [a3n,a25,c1m,b52 vs (i + 1) s]
  by_cases h:i = s
  ·subst h;simp
  ·rw [beq_eq_false_iff_ne.2 h]
   by_cases h1:i < s
   ·simp only [cond_false]
    rw [if_pos (by omega),if_pos (by omega),show s - i = (s - (i + 1)) + 1 by omega,List.getElem?_cons_succ]
   ·simp only [cond_false]
    rw [if_neg (by omega),if_neg (by omega)]
theorem b8h {args:List AV} {cargs:List Value} {n:Nat} (hn:args.length ≤ n) (h:VRels I w ρ args cargs):FRel I w ρ n (a3n 0 args) (cargs.toArray ++ Array.replicate (n - cargs.toArray.size) undef):=by
 have hlen:=VRels.length h
 refine ⟨by simp;omega,fun s=>?_⟩
 rw [b52]
 simp only [Nat.zero_le,if_true,Nat.sub_zero]
 cases hs:args[s]? with
 | none=>simp [VRel]
 | some v=>
  have hsl:=(List.getElem?_eq_some_iff.1 hs).1
  obtain ⟨c,hc,hv⟩:=VRels.get s h hs
  simp only [Option.getD_some,Array.getD_eq_getD_getElem?]
  rw [Array.getElem?_append_left (by simp;omega)]
  simp only [List.getElem?_toArray,hc,Option.getD_some]
  exact hv
theorem d49 {m:Nat} {v v':AV} {c:Value} {H:a06} (hfr:a42 m true (a86 (a04 H) m 12) v = some v') (hm:m ≤ H.length) (r:HRel E.G I K ρ (a04 H) w) (hn:NRel ρ H.length) (hv:VRel I w ρ v c) :
 ∃ I' ρ',(∀ c,I c → I' c) ∧ (∀ b,b < m → ρ' b = ρ b) ∧ HRel E.G I' K ρ' (a04 ((H.take m).map (Option.map (a0m (a19 m))))) w ∧ NRel ρ' ((H.take m).map (Option.map (a0m (a19 m)))).length ∧ m ≤ ((H.take m).map (Option.map (a0m (a19 m)))).length ∧ VRel I' w ρ' v' c:=by
 have hlen:((H.take m).map (Option.map (a0m (a19 m)))).length = m:=by simp;omega
 obtain ⟨h1,h2⟩:=a9x (h':=a04 ((H.take m).map (Option.map (a0m (a19 m))))) r hfr hv (by
  intro b o' hb
  simp only [a04,List.getElem?_map,List.getElem?_take] at hb
  split at hb
  case isFalse=>simp at hb
  rename_i hlt
  cases hx:H[b]? with
  | none=>rw [hx] at hb;simp at hb
  | some ob=>
   rw [hx] at hb
   simp only [Option.map_some,Option.join_some] at hb
   obtain ⟨o,rfl,rfl⟩:=a09 hb
   exact ⟨o,hlt,by simp [a04,hx],rfl⟩)
 refine ⟨_,_,fun _ h=>.inl h,fun b hb=>by simp [PMap.below,hb],h1,?_,by rw [hlen];exact Nat.le_refl _,h2⟩
 intro b hb
 rw [hlen] at hb
 simp only [PMap.below]
 rw [if_neg (by omega)]
theorem d6m {m:Nat} {v v':AV} {c:Value} {H H':a06} (hf:e1i m v H = some (v',H')) (hm:m ≤ H.length) (r:HRel E.G I K ρ (a04 H) w) (hn:NRel ρ H.length) (hv:VRel I w ρ v c) :
 ∃ I' ρ',(∀ c,I c → I' c) ∧ (∀ b,b < m → ρ' b = ρ b) ∧ HRel E.G I' K ρ' (a04 H') w ∧ NRel ρ' H'.length ∧ m ≤ H'.length ∧ VRel I' w ρ' v' c:=by
 unfold e1i at hf
 split at hf
 case h_2=>cases hf;exact ⟨I,ρ,fun _ h=>h,fun _ _=>rfl,r,hn,hm,hv⟩
 case h_3=>cases hf;exact ⟨I,ρ,fun _ h=>h,fun _ _=>rfl,r,hn,hm,hv⟩
 case h_4=>cases hf;exact ⟨I,ρ,fun _ h=>h,fun _ _=>rfl,r,hn,hm,hv⟩
 case h_5=>
  cases hf
  obtain ⟨I',ρ',f⟩:=d49 (v:=.nilslice) (v':=.nilslice) rfl hm r hn hv
  exact ⟨I',ρ',f⟩
 case h_6=>cases hf
 rename_i b i o
 rw [cond_eq_ite] at hf
 split at hf
 case isFalse=>cases hf
 rename_i hmb
 rw [Nat.ble_eq] at hmb
 split at hf
 case h_2=>cases hf
 rename_i k rows hb
 split at hf
 case h_2=>cases hf
 rename_i rows' hfr
 cases hf
 simp only [VRel] at hv
 obtain ⟨p,hp,rfl⟩:=hv
 obtain ⟨p',hp',hnI,hnK,hk,hk0,⟨arr,e,ha1,ha2,ha3⟩,hrows⟩:=r.live b _ hb
 obtain rfl:p = p':=z9o (hp.symm.trans hp')
 have hwo:∀ x,a6z (a04 H) b x = if x = b then none else a04 H x:=by
  intro x;unfold a6z
  by_cases h:x = b
  ·subst h;rw [if_pos rfl,show Nat.beq x x = true from Nat.beq_refl x];rfl
  ·rw [if_neg h,show Nat.beq x b = false from by
    cases hq:Nat.beq x b with
    | false=>rfl
    | true=>exact absurd (Nat.eq_of_beq_eq_true hq) h]
   rfl
 have r0:HRel E.G I K ρ (a6z (a04 H) b) w:=r.fewer (fun x ob hx=>by
  rw [hwo] at hx;split at hx
  ·cases hx
  ·exact hx)
 have hlen:((H.take m).map (Option.map (a0m (a19 m)))).length = m:=by simp;omega
 have hlow:∀ x o',a04 ((H.take m).map (Option.map (a0m (a19 m)))) x = some o' → ∃ o,x < m ∧ a6z (a04 H) b x = some o ∧ o' = a0m (a19 m) o:=by
  intro x o' hx
  simp only [a04,List.getElem?_map,List.getElem?_take] at hx
  split at hx
  case isFalse=>simp at hx
  rename_i hlt
  cases hxx:H[x]? with
  | none=>rw [hxx] at hx;simp at hx
  | some ob=>
   rw [hxx] at hx
   simp only [Option.map_some,Option.join_some] at hx
   obtain ⟨o,rfl,rfl⟩:=a09 hx
   exact ⟨o,hlt,by rw [hwo,if_neg (by omega)];simp [a04,hxx],rfl⟩
 have h1:=(a9x (h':=a04 ((H.take m).map (Option.map (a0m (a19 m))))) r0 (v:=.junk) (v':=.junk) (c:=.nilFunc) (n:=12) (m:=m) rfl (by simp [VRel]) hlow).1
 have hnF:¬ a8y I ρ (a6z (a04 H) b) m p.blk:=by
  rintro (hc|⟨b',o',q,hb',ho',hq,he⟩)
  ·exact hnI hc
  ·rw [hwo] at ho'
   split at ho'
   ·cases ho'
   ·rename_i hne
    exact hne (r.inj b' b q p (by simp [ho']) (by simp [hb]) hq hp he)
 have hI:∀ c,I c → a8y I ρ (a6z (a04 H) b) m c:=fun c hc=>.inl hc
 have hr2:=c7o hI (b0s r0 12) rows hfr hrows
 let ρ':PMap:=fun x=>if x = m then some p else ρ.below m true x
 have hρ:∀ x q,ρ.below m true x = some q → ρ' x = some q:=by
  intro x q hx
  have hlt:x < m:=by
   simp only [PMap.below] at hx;split at hx
   ·rename_i h;exact h.2
   ·cases hx
  show (if x = m then some p else ρ.below m true x) = some q
  rw [if_neg (by omega)];exact hx
 have hHm:∀ x,a04 ((H.take m).map (Option.map (a0m (a19 m))) ++ [some (.row k rows')]) x = if x = m then some (.row k rows') else a04 ((H.take m).map (Option.map (a0m (a19 m)))) x:=by
  intro x
  unfold a04
  by_cases hx:x < m
  ·rw [List.getElem?_append_left (by rw [hlen];exact hx),if_neg (by omega)]
  ·rw [List.getElem?_append_right (by rw [hlen];omega),hlen]
   by_cases hxm:x = m
   ·subst hxm;rw [if_pos rfl,Nat.sub_self];rfl
   ·rw [if_neg hxm]
    have e1:([some (AObj.row k rows')]:a06)[x - m]? = none:=List.getElem?_eq_none (by simp;omega)
    have e2:((H.take m).map (Option.map (a0m (a19 m))))[x]? = none:=List.getElem?_eq_none (by rw [hlen];omega)
    rw [e1,e2]
 refine ⟨a8y I ρ (a6z (a04 H) b) m,ρ',hI,?_,?_,?_,?_,?_⟩
 ·intro x hx
  show (if x = m then some p else ρ.below m true x) = ρ x
  rw [if_neg (by omega)]
  simp [PMap.below,hx]
 ·refine ⟨?_,?_,?_,h1.imm,h1.kept,h1.apart,?_⟩
  ·intro x ob hx
   rw [hHm] at hx
   split at hx
   ·rename_i hxm
    cases hx
    refine ⟨p,by show (if x = m then some p else _) = some p;rw [if_pos hxm],hnF,hnK,hk,hk0,⟨arr,e,ha1,ha2,by rw [b34 hfr];exact ha3⟩,?_⟩
    exact VRows.mono (fun _ h=>h) (fun _ _=>rfl) rows' hρ rfl hr2
   ·obtain ⟨q,hq,h3,h4,h5⟩:=h1.live x ob hx
    exact ⟨q,hρ x q hq,h3,h4,ORel.mono ob (fun _ h=>h) (fun _ _=>rfl) hρ rfl h5⟩
  ·intro x y q q' hx hy hqx hqy he
   rw [hHm] at hx hy
   have low:∀ z q,z ≠ m → (a04 ((H.take m).map (Option.map (a0m (a19 m)))) z).isSome → ρ' z = some q → ρ.below m true z = some q ∧ z < m ∧ ρ z = some q ∧ (a04 H z).isSome:=by
    intro z q hz hs hq
    have hq':ρ.below m true z = some q:=by
     have:(if z = m then some p else ρ.below m true z) = some q:=hq
     rw [if_neg hz] at this;exact this
    obtain ⟨ob,ho⟩:=Option.isSome_iff_exists.1 hs
    obtain ⟨o1,hlt,ho1,_⟩:=hlow z ob ho
    rw [hwo,if_neg (by omega)] at ho1
    refine ⟨hq',hlt,?_,by rw [ho1];rfl⟩
    simp only [PMap.below] at hq'
    rw [if_pos ⟨trivial,hlt⟩] at hq';exact hq'
   by_cases hxm:x = m
   ·by_cases hym:y = m
    ·rw [hxm,hym]
    ·exfalso
     rw [if_neg hym] at hy
     obtain ⟨_,h4,h5,h6⟩:=low y q' hym hy hqy
     have hqp:q = p:=by
      have:(if x = m then some p else ρ.below m true x) = some q:=hqx
      rw [if_pos hxm] at this;exact (z9o this).symm
     subst hqp
     have:=r.inj b y q q' (by simp [hb]) h6 hp h5 he
     omega
   ·rw [if_neg hxm] at hx
    obtain ⟨h3,h4,h5,h6⟩:=low x q hxm hx hqx
    by_cases hym:y = m
    ·exfalso
     have hqp:q' = p:=by
      have:(if y = m then some p else ρ.below m true y) = some q':=hqy
      rw [if_pos hym] at this;exact (z9o this).symm
     subst hqp
     have:=r.inj x b q q' h6 (by simp [hb]) h5 hp he
     omega
    ·rw [if_neg hym] at hy
     obtain ⟨g3,_⟩:=low y q' hym hy hqy
     exact h1.inj x y q q' hx hy h3 g3 he
  ·intro x q hx
   have:(if x = m then some p else ρ.below m true x) = some q:=hx
   split at this
   ·cases this;exact r.dom b p hp
   ·exact h1.dom x q this
  ·intro g cs hg
   exact h1.glob g cs hg
 ·intro x hx
  rw [List.length_append,hlen] at hx
  simp only [List.length_cons,List.length_nil] at hx
  show (if x = m then some p else ρ.below m true x) = none
  rw [if_neg (by omega)]
  simp only [PMap.below]
  rw [if_neg (by omega)]
 ·rw [List.length_append,hlen];omega
 ·simp only [VRel]
  exact ⟨p,by show (if m = m then some p else _) = some p;rw [if_pos rfl],rfl⟩
theorem b8f {thaw:Bool} {m:Nat} {v v':AV} {c:Value} {H H':a06} (hf:a2a thaw m v H = some (v',H')) (hm:m ≤ H.length) (r:HRel E.G I K ρ (a04 H) w) (hn:NRel ρ H.length) (hv:VRel I w ρ v c) :
 ∃ I' ρ',(∀ c,I c → I' c) ∧ (∀ b,b < m → ρ' b = ρ b) ∧ HRel E.G I' K ρ' (a04 H') w ∧ NRel ρ' H'.length ∧ m ≤ H'.length ∧ VRel I' w ρ' v' c:=by
 unfold a2a at hf
 rw [cond_eq_ite] at hf
 split at hf
 ·rw [cond_eq_ite] at hf
  split at hf
  ·exact d6m hf hm r hn hv
  ·cases hf
   exact ⟨I,ρ,fun _ h=>h,fun _ _=>rfl,r,hn,hm,hv⟩
 ·split at hf
  case h_2=>cases hf;exact ⟨I,ρ,fun _ h=>h,fun _ _=>rfl,r,hn,hm,hv⟩
  rename_i v1 hfr
  cases hf
  exact d49 hfr hm r hn hv
end
end Go.Ax
/- AxLive: which slots are read from a loop's head on. Definitions only: nothing rests on them. -/
namespace Go.Ax
def e0o:List (Nat × List Nat) → Nat → List Nat
 | [],_=>[]
 | (i,l) :: r,j=>bif Nat.beq i j then l else e0o r j
end Go.Ax
/- AxInst: the tables of the evaluator, read off a program. -/
namespace Go.Ax
/-! ### tables that are searched -/
inductive Tab (α:Type) where
 | nil
 | node (l:Tab α) (k:Nat) (v:α) (r:Tab α)
def Tab.get {α:Type}:Tab α → Nat → Option α
 | .nil,_=>none
 | .node l k v r,i=>bif Nat.blt i k then l.get i else bif Nat.beq i k then some v else r.get i
def Tab.all {α:Type} (p:Nat → α → Bool):Tab α → Bool
 | .nil=>true
 | .node l k v r=>p k v && l.all p && r.all p
theorem Tab.all_get {α:Type} {p:Nat → α → Bool}:∀ {t:Tab α} {i:Nat} {x:α},t.all p = true → t.get i = some x → p i x = true
 | .nil,i,x,_,h=>by simp [Tab.get] at h
 | .node l k v r,i,x,ha,h=>by
  simp only [Tab.all,Bool.and_eq_true] at ha
  simp only [Tab.get,cond_eq_ite] at h
  split at h
  ·exact Tab.all_get ha.1.2 h
  ·split at h
   ·rename_i hk
    have:i = k:=by simpa using hk
    cases h;subst this;exact ha.1.1
   ·exact Tab.all_get ha.2 h
def Tab.toList {α:Type}:Tab α → List α
 | .nil=>[]
 | .node l _ v r=>l.toList ++ v :: r.toList
def Tab.from {α:Type}:Nat → Tab α → Option Nat
 | lo,.nil=>some lo
 | lo,.node l k _ r=>match l.from lo with
  | some n=>bif Nat.beq n k then r.from (k + 1) else none
  | none=>none
theorem Tab.from_len {α:Type}:∀ {t:Tab α} {lo n:Nat},t.from lo = some n → n = lo + t.toList.length
 | .nil,lo,n,h=>by simp only [Tab.from,Option.some.injEq] at h;simp [Tab.toList,h]
 | .node l k v r,lo,n,h=>by
  unfold Tab.from at h
  split at h
  case h_2=>cases h
  rename_i m hm
  rw [cond_eq_ite] at h
  split at h
  case isFalse=>cases h
  rename_i hk
  have hk:m = k:=by simpa using hk
  have h1:=Tab.from_len hm
  have h2:=Tab.from_len h
  simp [Tab.toList];omega
theorem Tab.get_from {α:Type}:∀ {t:Tab α} {lo n i:Nat} {x:α},t.from lo = some n → t.get i = some x → lo ≤ i ∧ t.toList[i - lo]? = some x
 | .nil,lo,n,i,x,_,h=>by simp [Tab.get] at h
 | .node l k v r,lo,n,i,x,hf,h=>by
  unfold Tab.from at hf
  split at hf
  case h_2=>cases hf
  rename_i m hm
  rw [cond_eq_ite] at hf
  split at hf
  case isFalse=>cases hf
  rename_i hk
  have hk:m = k:=by simpa using hk
  subst hk
  have hl:=Tab.from_len hm
  simp only [Tab.get,cond_eq_ite] at h
  split at h
  ·rename_i hlt
   obtain ⟨h1,h2⟩:=Tab.get_from hm h
   have hlt:i < m:=by simpa [Nat.blt_eq] using hlt
   refine ⟨h1,?_⟩
   simp only [Tab.toList]
   rw [List.getElem?_append_left (by omega)];exact h2
  ·split at h
   ·rename_i hk
    have:i = m:=by simpa using hk
    cases h;subst this
    refine ⟨by omega,?_⟩
    simp only [Tab.toList]
    rw [List.getElem?_append_right (by omega),show i - lo - l.toList.length = 0 by omega];rfl
   ·obtain ⟨h1,h2⟩:=Tab.get_from hf h
    refine ⟨by omega,?_⟩
    simp only [Tab.toList]
    rw [List.getElem?_append_right (by omega),show i - lo - l.toList.length = (i - (m + 1)) + 1 by omega,List.getElem?_cons_succ];exact h2
/-! ### the tables of a program -/
def d3p (T:Tab TypeInfo) (t:TypeId):Option TypeDesc:=
 match T.get t with
 | some i=>match i.desc with
  | .named _ u=>match T.get u with
   | some j=>some j.desc
   | none=>none
  | d=>some d
 | none=>none
def d4q (T:Tab TypeInfo) (t:TypeId):Option (List AV):=
 match T.get t with
 | some i=>match i.zero with
  | some z=>bif (d3p T t).isSome && Nat.beq z.cells.toList.length i.size then some (z.cells.toList.map a3e) else none
  | none=>none
 | none=>none
def e21 (P:Program) (T:Tab TypeInfo) (t:TypeId):Bool:=
 !(P.eqGuardType P.depth t) && !(P.stoodInHeld t) && (match T.get t with|some i=>i.comparable|none=>false) &&
  (match d3p T t with|some (.struct fs)=>fs.toList.all (fun f=>!(f.name == "_"))|_=>true)
def d3y (T:Tab TypeInfo) (t:Nat) (i:TypeInfo):Bool:=
 match d3p T t,i.zero with
 | some d,some (.agg _)=>a28 d
 | some d,some _=>!(a28 d)
 | _,_=>true
structure Laid where
 P:Program
 T:Tab TypeInfo
 F:Tab Func
 keep:Tab (List (Nat × List Nat))
 eqs:Tab Bool
 G:Nat → Option (List AV)
 thaw:Nat → Bool
 ro:Nat → Bool
 ext:Nat → Bool
def Laid.env (L:Laid):Env:={
 P:=L.P
 und:=d3p L.T
 sz:=fun t=>match L.T.get t with|some i=>i.size|none=>0
 bytes:=fun t=>match L.T.get t with|some i=>i.bytes|none=>0
 zero:=d4q L.T
 eqok:=fun t=>match L.eqs.get t with|some b=>b|none=>false
 G:=L.G
 fn:=fun f=>match L.F.get f with
  | some fn=>match fn.body with
   | some c=>some ⟨c,fn.ntmps,fn.results.toList⟩
   | none=>none
  | none=>none
 keep:=fun f=>match L.keep.get f with|some l=>e0o l|none=>fun _=>[]
 thaw:=L.thaw
 ro:=L.ro
 ext:=L.ext }
structure LaidOk (L:Laid):Prop where
 types:∀ i x,L.T.get i = some x → L.P.types[i]? = some x
 funcs:∀ i x,L.F.get i = some x → L.P.funcs[i]? = some x
 shape:L.T.all (d3y L.T) = true
 names:L.F.all (fun _ fn=>!(fn.name == "runtime.NumGoroutine")) = true
 eqs:L.eqs.all (fun t b=>!b || e21 L.P L.T t) = true
 ext:∀ f,L.ext f = true → ∃ fn,L.P.funcs[f]? = some fn ∧ fn.body = none ∧ (fn.name == "runtime.NumGoroutine") = false ∧ Extern.findNext fn = none ∧ Extern.find fn = some Extern.BytealgIndexByte.indexByte
 mixed:L.P.follows .mixedOrders = true
 draws:L.F.all (fun _ fn=>match fn.body with|some c=>a26 c|none=>true) = true
theorem b51 {α:Type} {t:Tab α} {l:List α} {n:Nat} (h1:t.from 0 = some n) (h2:t.toList = l):∀ i x,t.get i = some x → l.toArray[i]? = some x:=by
 intro i x h
 obtain ⟨_,h3⟩:=Tab.get_from h1 h
 rw [h2] at h3
 simpa using h3
section
variable {L:Laid} (ok:LaidOk L)
include ok
theorem b0o {t:Nat} {i:TypeInfo} (h:L.T.get t = some i):L.P.info? t = some i:=by
 have h1:=ok.types t i h
 have h2:=(Array.getElem?_eq_some_iff.1 h1).1
 show (if t < L.P.types.size then L.P.types[t]? else _) = _
 rw [if_pos h2];exact h1
theorem d3o {t:Nat} {d:TypeDesc} (h:d3p L.T t = some d):L.P.underlying t = some d ∧ ∃ i,L.T.get t = some i:=by
 unfold d3p at h
 split at h
 case h_2=>cases h
 rename_i i hi
 refine ⟨?_,i,hi⟩
 have h1:=b0o ok hi
 unfold Program.underlying
 rw [h1]
 split at h
 ·rename_i nm u hd
  split at h
  case h_2=>cases h
  rename_i j hj
  cases h
  have h2:=b0o ok hj
  cases i
  simp only at hd
  subst hd
  simp [h2]
 ·rename_i d' hne
  cases h
  cases i
  rename_i dd _ _ _ _ _ _ _ _ _
  cases dd<;>first|rfl|exact absurd rfl (hne _ _)
theorem LaidOk.envOk:EnvOk L.env where
 und t d h:=by
  obtain ⟨h1,i,hi⟩:=d3o ok h
  exact ⟨h1,i,b0o ok hi,by simp [Laid.env,hi],by simp [Laid.env,hi]⟩
 zero t cs h:=by
  have h:d4q L.T t = some cs:=h
  unfold d4q at h
  split at h
  case h_2=>cases h
  rename_i i hi
  split at h
  case h_2=>cases h
  rename_i z hz
  rw [cond_eq_ite] at h
  split at h
  case isFalse=>cases h
  rename_i hc
  simp only [Bool.and_eq_true,Nat.beq_eq] at hc
  cases h
  refine ⟨Option.isSome_iff_exists.1 hc.1,i,z,b0o ok hi,hz,by simp [Laid.env,hi,hc.2],fun I w=>a7c _⟩
 zshape t d i z hd hi hz:=by
  obtain ⟨_,j,hj⟩:=d3o ok hd
  have hji:=b0o ok hj
  have:i = j:=z9o (hi.symm.trans hji)
  subst this
  have hs:=Tab.all_get ok.shape hj
  have hd:d3p L.T t = some d:=hd
  simp only [d3y,hd,hz] at hs
  cases z with
  | agg a=>simp only at hs;exact ⟨fun _=>⟨a,rfl⟩,fun h=>by rw [hs] at h;cases h⟩
  | _=>simp only [Bool.not_eq_true'] at hs;exact ⟨fun h=>(by rw [hs] at h;cases h),fun _=>rfl⟩
 eqok t h:=by
  have h:(match L.eqs.get t with|some b=>b|none=>false) = true:=h
  split at h
  case h_2=>cases h
  rename_i b hb
  subst h
  have h:=Tab.all_get ok.eqs hb
  simp only [Bool.not_true,Bool.false_or,e21,Bool.and_eq_true,Bool.not_eq_true'] at h
  obtain ⟨⟨⟨h1,h2⟩,h3⟩,h4⟩:=h
  refine ⟨h1,h2,?_,?_⟩
  ·split at h3
   ·rename_i i hi;exact ⟨i,b0o ok hi,h3⟩
   ·cases h3
  ·intro fs hfs f hf
   have hfs:d3p L.T t = some (.struct fs):=hfs
   rw [hfs] at h4
   simp only [List.all_eq_true,Bool.not_eq_true',beq_eq_false_iff_ne] at h4
   exact h4 f hf
 fn f i h:=by
  have h:(match L.F.get f with
   | some fn=>match fn.body with
    | some c=>some (⟨c,fn.ntmps,fn.results.toList⟩:FInfo)
    | none=>none
   | none=>none) = some i:=h
  split at h
  case h_2=>cases h
  rename_i fn hfn
  split at h
  case h_2=>cases h
  rename_i c hc
  cases h
  have hn:=Tab.all_get ok.names hfn
  exact ⟨fn,ok.funcs f fn hfn,hc,rfl,rfl,by simpa using hn⟩
 ext:=ok.ext
 mixed:=ok.mixed
theorem LaidOk.drawn:∀ f i,L.env.fn f = some i → a26 i.code = true:=by
 intro f i h
 have h:(match L.F.get f with
  | some fn=>match fn.body with
   | some c=>some (⟨c,fn.ntmps,fn.results.toList⟩:FInfo)
   | none=>none
  | none=>none) = some i:=h
 split at h
 case h_2=>cases h
 rename_i fn hfn
 split at h
 case h_2=>cases h
 rename_i c hc
 cases h
 have:=Tab.all_get ok.draws hfn
 simpa [hc] using this
end
end Go.Ax
/- AxMemo: calls whose answer is known already. -/
namespace Go.Ax
def d9n:List UInt8 → List UInt8 → Bool
 | [],[]=>true
 | a :: r,b :: s=>Nat.beq a.toNat b.toNat && d9n r s
 | _,_=>false
theorem c83:∀ {a b:List UInt8},d9n a b = true → a = b
 | [],[],_=>rfl
 | [],_ :: _,h=>by simp [d9n] at h
 | _ :: _,[],h=>by simp [d9n] at h
 | a :: r,b :: s,h=>by
  simp only [d9n,Bool.and_eq_true,Nat.beq_eq] at h
  rw [c83 h.2,UInt8.toNat_inj.1 h.1]
def eqO:Option Nat → Option Nat → Bool
 | none,none=>true
 | some a,some b=>Nat.beq a b
 | _,_=>false
theorem e23 {a b:Option Nat} (h:eqO a b = true):a = b:=by
 cases a<;>cases b<;>simp_all [eqO]
def eqI:Int → Int → Bool
 | .ofNat a,.ofNat b=>Nat.beq a b
 | .negSucc a,.negSucc b=>Nat.beq a b
 | _,_=>false
theorem e24 {a b:Int} (h:eqI a b = true):a = b:=by
 cases a<;>cases b<;>simp_all [eqI]
mutual
def eqV:AV → AV → Bool
 | .bool a,.bool b=>match a,b with|true,true=>true|false,false=>true|_,_=>false
 | .int k n,.int k' n'=>decide (k = k') && eqI n n'
 | .str s,.str t=>d9n s t
 | .nilptr,.nilptr=>true
 | .nilslice,.nilslice=>true
 | .nilmap,.nilmap=>true
 | .nilfunc,.nilfunc=>true
 | .nilifc,.nilifc=>true
 | .iptr cs,.iptr ds=>eqL cs ds
 | .islice r c,.islice r' c'=>eqO c c' && eqR r r'
 | .agg cs,.agg ds=>eqL cs ds
 | .tuple cs,.tuple ds=>eqL cs ds
 | _,_=>false
def eqL:List AV → List AV → Bool
 | [],[]=>true
 | a :: r,b :: s=>eqV a b && eqL r s
 | _,_=>false
def eqR:List (List AV) → List (List AV) → Bool
 | [],[]=>true
 | a :: r,b :: s=>eqL a b && eqR r s
 | _,_=>false
end
mutual
theorem e22:∀ (a b:AV),eqV a b = true → a = b
 | .bool a,b,h=>by cases b<;>simp only [eqV] at h<;>first|(cases h;done)|(split at h<;>first|rfl|cases h)
 | .int k n,b,h=>by
  cases b<;>simp only [eqV] at h<;>first|(cases h;done)|skip
  simp only [Bool.and_eq_true,decide_eq_true_eq] at h
  rw [h.1,e24 h.2]
 | .str s,b,h=>by cases b<;>simp only [eqV] at h<;>first|(cases h;done)|rw [c83 h]
 | .nilptr,b,h=>by cases b<;>simp only [eqV] at h<;>first|rfl|(cases h;done)
 | .nilslice,b,h=>by cases b<;>simp only [eqV] at h<;>first|rfl|(cases h;done)
 | .nilmap,b,h=>by cases b<;>simp only [eqV] at h<;>first|rfl|(cases h;done)
 | .nilfunc,b,h=>by cases b<;>simp only [eqV] at h<;>first|rfl|(cases h;done)
 | .nilifc,b,h=>by cases b<;>simp only [eqV] at h<;>first|rfl|(cases h;done)
 | .iptr cs,b,h=>by cases b<;>simp only [eqV] at h<;>first|(cases h;done)|rw [b56 _ _ h]
 | .islice r c,b,h=>by
  cases b<;>simp only [eqV] at h<;>first|(cases h;done)|skip
  simp only [Bool.and_eq_true] at h
  rw [e23 h.1,d4e _ _ h.2]
 | .agg cs,b,h=>by cases b<;>simp only [eqV] at h<;>first|(cases h;done)|rw [b56 _ _ h]
 | .tuple cs,b,h=>by cases b<;>simp only [eqV] at h<;>first|(cases h;done)|rw [b56 _ _ h]
 | .junk,b,h=>by simp [eqV] at h
 | .ptr ..,b,h=>by simp [eqV] at h
 | .slice ..,b,h=>by simp [eqV] at h
 | .map ..,b,h=>by simp [eqV] at h
 | .imap ..,b,h=>by simp [eqV] at h
 | .func ..,b,h=>by simp [eqV] at h
 | .iface ..,b,h=>by simp [eqV] at h
theorem b56:∀ (a b:List AV),eqL a b = true → a = b
 | [],b,h=>by cases b<;>simp [eqL] at h<;>rfl
 | x :: r,b,h=>by
  cases b<;>simp only [eqL] at h
  ·cases h
  ·simp only [Bool.and_eq_true] at h
   rw [e22 _ _ h.1,b56 _ _ h.2]
theorem d4e:∀ (a b:List (List AV)),eqR a b = true → a = b
 | [],b,h=>by cases b<;>simp [eqR] at h<;>rfl
 | x :: r,b,h=>by
  cases b<;>simp only [eqR] at h
  ·cases h
  ·simp only [Bool.and_eq_true] at h
   rw [b56 _ _ h.1,d4e _ _ h.2]
end
structure Fact where
 g:Nat
 args:List AV
 v:AV
def a0i (E:Env) (x:Fact):Prop:=
 ∀ (I K:Nat → Prop) (ρ:PMap) (w:World) (cargs:List Value),HRel E.G I K ρ (a04 []) w → NRel ρ 0 → VRels I w ρ x.args cargs →
  Calls E.P x.g cargs.toArray w fun en w'=>∃ c I' ρ',en = .returned c ∧ Ret E I K ρ 0 w I' ρ' [] w' ∧ VRel I' w' ρ' x.v c
def e0p:List Fact → FuncId → List AV → Option AV
 | [],_,_=>none
 | x :: r,g,args=>bif Nat.beq x.g g && eqL x.args args then some x.v else e0p r g args
def e6f (M:List Fact) (call:FuncId → List AV → a06 → Option (AV × a06)) (g:FuncId) (args:List AV) (H:a06):Option (AV × a06):=
 match H with
 | []=>match e0p M g args with
  | some v=>some (v,[])
  | none=>call g args []
 | b :: r=>call g args (b :: r)
theorem c5g {E:Env} {g:FuncId} {args:List AV} {v:AV}:∀ {M:List Fact},(∀ x ∈ M,a0i E x) → e0p M g args = some v → a0i E ⟨g,args,v⟩
 | [],_,h=>by simp [e0p] at h
 | x :: r,hM,h=>by
  simp only [e0p,cond_eq_ite] at h
  split at h
  ·rename_i hc
   simp only [Bool.and_eq_true,Nat.beq_eq] at hc
   cases h
   have:=hM x (by simp)
   obtain ⟨g',a',v'⟩:=x
   simp only at hc this
   have h1:=hc.1
   have h2:=b56 _ _ hc.2
   subst h1;subst h2
   exact this
  ·exact c5g (fun x hx=>hM x (by simp [hx])) h
theorem d6l {E:Env} {M:List Fact} (hM:∀ x ∈ M,a0i E x) {call:FuncId → List AV → a06 → Option (AV × a06)} (hcall:a3c E call):a3c E (e6f M call):=by
 intro g args H v H' hrun
 unfold e6f at hrun
 split at hrun
 ·split at hrun
  ·rename_i v' hs
   cases hrun
   exact c5g hM hs
  ·exact hcall g args [] v H' hrun
 ·exact hcall g args _ v H' hrun
def a91 (E:Env) (call:FuncId → List AV → a06 → Option (AV × a06)) (lf:Nat) (f:FuncId) (args:List AV) (H:a06):Option (AV × a06):=
 match E.fn f with
 | none=>none
 | some i=>bif Nat.ble args.length i.ntmps then
  a6b E H.length i.ntmps (E.keep f) call lf 0 i.code (a3n 0 args) H fun e F' H'=>match e with
   | .exit _=>none
   | _=>match a1b E F' H' i.results with
    | some vs=>a2a (E.thaw f) H.length (a45 vs) H'
    | none=>none
  else none
def c6o (E:Env) (M:List Fact):Nat → FuncId → List AV → a06 → Option (AV × a06)
 | 0,_,_,_=>none
 | n + 1,f,args,H=>e6f M (a91 E (c6o E M n) (n + 1)) f args H
theorem b5s {E:Env} (ok:EnvOk E) (hdr:∀ f i,E.fn f = some i → a26 i.code = true) {call:FuncId → List AV → a06 → Option (AV × a06)} (hcall:a3c E call) (lf:Nat):a3c E (a91 E call lf):=by
 intro g args H v H' hrun I K ρ w cargs rel hn ha
 unfold a91 at hrun
 split at hrun
 ·cases hrun
 rename_i i hi
 rw [cond_eq_ite] at hrun
 split at hrun
 case isFalse=>cases hrun
 rename_i hle
 obtain ⟨fn,h1,h2,h3,h4,_⟩:=ok.fn g i hi
 refine calls_of_wp h1 h2 ?_
 rw [h3]
 let e:Entry:=⟨I,K,ρ,H.length,w,[]⟩
 have hnow:Now E e i.ntmps (a3n 0 args) H I ρ { tmps:=cargs.toArray ++ Array.replicate (i.ntmps - cargs.toArray.size) undef,defers:=[] } w:=
  ⟨fun _ h=>h,fun _ _=>rfl,Ext.refl _ _ _,rel,hn,b8h (by simpa [Nat.ble_eq] using hle) ha,Nat.le_refl _,rfl⟩
 refine c8a (e:=e) ok hcall i.code (hdr g i hi) ?_ hnow hrun
 intro x F' H1 I1 ρ1 a w1 hn1 hk
 have fin:(match a1b E F' H1 i.results with
  | some vs=>a2a (E.thaw g) H.length (a45 vs) H1
  | none=>none) = some (v,H') → a.defers = [] ∧ ∃ c,(results fn a.tmps).run E.P w1 = .ok c w1 ∧ ∃ c' I' ρ',Ending.returned c = .returned c' ∧ Ret E I K ρ H.length w I' ρ' H' w1 ∧ VRel I' w1 ρ' v c':=by
  intro hk
  split at hk
  case h_2=>cases hk
  rename_i vs hvs
  rw [← h4] at hvs
  obtain ⟨c,hr,hv⟩:=b4g ok hn1.rel hn1.frm.2 hvs
  obtain ⟨I2,ρ2,f1,f2,f3,f4,f5,f6⟩:=b8f hk hn1.low hn1.rel hn1.nrel hv
  exact ⟨hn1.defers,c,hr,c,I2,ρ2,rfl,⟨fun c hc=>f1 c (hn1.imm c hc),fun b hb=>by rw [f2 b hb];exact hn1.map b hb,hn1.ext,f3,f4,f5⟩,f6⟩
 cases x with
 | normal=>exact fin hk
 | exit id=>cases hk
 | ret=>exact fin hk
theorem b65 {E:Env} (ok:EnvOk E) (hdr:∀ f i,E.fn f = some i → a26 i.code = true) {M:List Fact} (hM:∀ x ∈ M,a0i E x):∀ n,a3c E (c6o E M n)
 | 0=>by intro g args H v H' hrun;simp [c6o] at hrun
 | n + 1=>d6l hM (b5s ok hdr (b65 ok hdr hM n) (n + 1))
theorem a0w {E:Env} (ok:EnvOk E) (hdr:∀ f i,E.fn f = some i → a26 i.code = true) {M:List Fact} (hM:∀ x ∈ M,a0i E x) (n:Nat) {g:Nat} {args:List AV} {v:AV} (h:a91 E (c6o E M n) n g args [] = some (v,[])) :
 a0i E ⟨g,args,v⟩:=b5s ok hdr (b65 ok hdr hM n) n g args [] v [] h
theorem c80 {E:Env}:∀ x ∈ ([]:List Fact),a0i E x:=by simp
theorem a0p {E:Env} {x:Fact} {M:List Fact} (hx:a0i E x) (hM:∀ x ∈ M,a0i E x):∀ y ∈ x :: M,a0i E y:=by
 intro y hy
 simp only [List.mem_cons] at hy
 rcases hy with rfl|hy
 ·exact hx
 ·exact hM y hy
end Go.Ax
/- AxTop: a call from outside: a3q old block is immutable. -/
namespace Go.Ax
open Go.RowKit
def Old (w:World):Nat → Prop:=fun c=>c < w.heap.size
def Holds (E:Env) (w:World):Prop:=∀ g cs,E.G g = some cs → g < w.heap.size ∧ VAt (Old w) w noP cs g 0
theorem e0d {E:Env} {f:FuncId} {run:List AV → a06 → Option (AV × a06)} (hf:b75 E f run) {args:List AV} {v:AV} {H':a06} (h:run args [] = some (v,H')) {w:World} (hG:Holds E w) {cargs:List Value} (ha:VRels (Old w) w noP args cargs) :
 Calls E.P f cargs.toArray w fun en w'=>∃ c I' ρ',en = .returned c ∧ Below w.heap.size w w' ∧ VRel I' w' ρ' v c:=by
 have rel:HRel E.G (Old w) (fun _=>False) noP (a04 []) w:=by
  refine ⟨?_,?_,?_,fun c hc=>hc,fun c hc=>hc.elim,fun _ _ h=>h,hG⟩
  ·intro b o hb;simp [a04] at hb
  ·intro b b' m m' hb;simp [a04] at hb
  ·intro b m hb;simp [noP] at hb
 refine (hf args [] v H' h (Old w) (fun _=>False) noP w cargs rel (fun _ _=>rfl) ha).mono ?_
 rintro en w' ⟨c,I',ρ',rfl,hret,hv⟩
 exact ⟨c,I',ρ',rfl,⟨hret.ext.os,hret.ext.tape,hret.ext.output,hret.ext.size,fun k hk=>hret.ext.keep k (.inl hk)⟩,hv⟩
theorem c9z {E:Env} {f:FuncId} {run:List AV → a06 → Option (AV × a06)} (hf:b75 E f run) {args:List AV} {H':a06} (h:run args [] = some (.bool true,H')) {w:World} (hG:Holds E w) {cargs:List Value} (ha:VRels (Old w) w noP args cargs) :
 Calls E.P f cargs.toArray w fun en w'=>en = .returned (.bool true) ∧ Below w.heap.size w w':=by
 refine (e0d hf h hG ha).mono ?_
 rintro en w' ⟨c,I',ρ',rfl,hb,hv⟩
 simp only [VRel] at hv
 subst hv
 exact ⟨rfl,hb⟩
end Go.Ax
/- AxRead: what the row's reading of an argument gives: abstract values of the argument's type. -/
namespace Go.Ax
def Typ (E:Env):Nat → TypeId → List AV → Prop
 | 0,_,_=>False
 | n + 1,t,avs=>match E.und t with
  | some .bool=>∃ b,avs = [.bool b]
  | some (.int k)=>∃ i,avs = [.int k i] ∧ (Lit.int k i).wf = true
  | some .string=>∃ s,avs = [.str s] ∧ s.length ≤ maxLen
  | some (.slice e)=>avs = [.nilslice] ∨ ∃ rows cap,avs = [.islice rows (some cap)] ∧ rows.length ≤ cap ∧ cap ≤ maxLen ∧ ∀ r ∈ rows,r.length = E.sz e ∧ Typ E n e r
  | some (.struct fs)=>∃ parts:List (List AV),avs = parts.flatten ∧ parts.length = fs.toList.length ∧ ∀ (i:Nat) f p,fs.toList[i]? = some f → parts[i]? = some p → p.length = E.sz f.type ∧ Typ E n f.type p
  | some (.array m e)=>∃ parts:List (List AV),avs = parts.flatten ∧ parts.length = m ∧ ∀ p ∈ parts,p.length = E.sz e ∧ Typ E n e p
  | _=>False
def c52 (E:Env):Nat → List Field → Option Nat
 | o,[]=>some o
 | o,f :: r=>bif Nat.beq f.offset o then c52 E (o + E.sz f.type) r else none
def a4m (E:Env):Nat → TypeId → Bool
 | 0,_=>false
 | n + 1,t=>match E.und t with
  | some .bool=>true
  | some (.int _)=>true
  | some .string=>true
  | some (.slice e)=>(E.und e).isSome && Nat.blt 0 (E.sz e) && a4m E n e
  | some (.struct fs)=>(match c52 E 0 fs.toList with|some m=>Nat.beq m (E.sz t)|none=>false) && fs.toList.all (fun f=>(E.und f.type).isSome && a4m E n f.type)
  | some (.array m e)=>(E.und e).isSome && Nat.beq (m * E.sz e) (E.sz t) && a4m E n e
  | _=>false
section
variable {E:Env} {w:World} {H:Type} {enc:TypeId × Value → H} {base:Nat} {spare:Nat → Bool} {held:Bool}
theorem a3o (ok:EnvOk E) {t:TypeId} {d:TypeDesc} (h:E.und t = some d):E.P.cellsOf t = E.sz t:=by
 obtain ⟨_,i,hi,h1,_⟩:=ok.und t d h
 simp [Program.cellsOf,hi,h1]
theorem c5i {I:Nat → Prop} {k:Nat} {b:Nat} {Pr:List AV → Prop}:∀ (len off:Nat),(∀ i,i < len → ∃ r,Pr r ∧ r.length = k ∧ VAt I w noP r b (off + i * k)) →
 ∃ rows:List (List AV),rows.length = len ∧ (∀ r ∈ rows,r.length = k ∧ Pr r) ∧ VRows I w k noP rows b off
 | 0,off,_=>⟨[],rfl,by simp,by simp [VRows]⟩
 | len + 1,off,h=>by
  obtain ⟨r,h1,h2,h3⟩:=h 0 (by omega)
  obtain ⟨rows,g1,g2,g3⟩:=c5i (Pr:=Pr) len (off + k) (fun i hi=>by
   obtain ⟨r,q1,q2,q3⟩:=h (i + 1) (by omega)
   refine ⟨r,q1,q2,?_⟩
   rw [show off + k + i * k = off + (i + 1) * k by rw [Nat.add_mul];omega];exact q3)
  refine ⟨r :: rows,by simp [g1],?_,?_⟩
  ·intro x hx
   simp only [List.mem_cons] at hx
   rcases hx with rfl|hx
   ·exact ⟨h2,h1⟩
   ·exact g2 x hx
  ·simp only [VRows]
   exact ⟨h2,by simpa using h3,g3⟩
theorem c1i {I:Nat → Prop} {cs:List Value} {n:Nat}:∀ (fs:List Field) (o:Nat) {m:Nat},c52 E o fs = some m → m ≤ cs.length →
 (∀ f ∈ fs,∃ avs,VRels I w noP avs ((cs.drop f.offset).take (E.sz f.type)) ∧ Typ E n f.type avs) →
 o ≤ m ∧ ∃ parts:List (List AV),parts.length = fs.length ∧ (∀ (i:Nat) f p,fs[i]? = some f → parts[i]? = some p → p.length = E.sz f.type ∧ Typ E n f.type p) ∧ VRels I w noP parts.flatten ((cs.drop o).take (m - o))
 | [],o,m,ht,hm,_=>by
  simp only [c52,Option.some.injEq] at ht;subst ht
  exact ⟨Nat.le_refl _,[],rfl,by simp,by simp [VRels]⟩
 | f :: r,o,m,ht,hm,h=>by
  simp only [c52,cond_eq_ite] at ht
  split at ht
  case isFalse=>cases ht
  rename_i hfo
  have hfo:f.offset = o:=by simpa using hfo
  obtain ⟨hle,parts,h1,h2,h3⟩:=c1i r (o + E.sz f.type) ht hm (fun g hg=>h g (by simp [hg]))
  obtain ⟨avs,g1,g2⟩:=h f (by simp)
  rw [hfo] at g1
  have hlen:avs.length = E.sz f.type:=by
   have:=VRels.length g1
   rw [this];simp;omega
  refine ⟨by omega,avs :: parts,by simp [h1],?_,?_⟩
  ·intro i g p hg hp
   cases i with
   | zero=>simp only [List.getElem?_cons_zero,Option.some.injEq] at hg hp;subst hg;subst hp;exact ⟨hlen,g2⟩
   | succ i=>simp only [List.getElem?_cons_succ] at hg hp;exact h2 i g p hg hp
  ·simp only [List.flatten_cons]
   have:(cs.drop o).take (m - o) = (cs.drop o).take (E.sz f.type) ++ (cs.drop (o + E.sz f.type)).take (m - (o + E.sz f.type)):=by
    rw [show m - o = E.sz f.type + (m - (o + E.sz f.type)) by omega,List.take_add,List.drop_drop]
   rw [this]
   exact VRels.append g1 h3
theorem d4i {I:Nat → Prop} {cs:List Value} {n k:Nat} {e:TypeId}:∀ (m o:Nat),o + m * k ≤ cs.length →
 (∀ i,i < m → ∃ avs,VRels I w noP avs ((cs.drop (o + i * k)).take k) ∧ Typ E n e avs) →
 ∃ parts:List (List AV),parts.length = m ∧ (∀ p ∈ parts,p.length = k ∧ Typ E n e p) ∧ VRels I w noP parts.flatten ((cs.drop o).take (m * k))
 | 0,o,_,_=>⟨[],rfl,by simp,by simp [VRels]⟩
 | m + 1,o,hl,h=>by
  have hmk:(m + 1) * k = k + m * k:=by rw [Nat.add_mul];omega
  obtain ⟨parts,h1,h2,h3⟩:=d4i (cs:=cs) (k:=k) (e:=e) m (o + k) (by omega) (fun i hi=>by
   obtain ⟨avs,g1,g2⟩:=h (i + 1) (by omega)
   refine ⟨avs,?_,g2⟩
   rw [show o + k + i * k = o + (i + 1) * k by rw [Nat.add_mul];omega];exact g1)
  obtain ⟨avs,g1,g2⟩:=h 0 (by omega)
  rw [Nat.zero_mul,Nat.add_zero] at g1
  have hlen:avs.length = k:=by
   have:=VRels.length g1
   rw [this];simp;omega
  refine ⟨avs :: parts,by simp [h1],?_,?_⟩
  ·intro p hp
   simp only [List.mem_cons] at hp
   rcases hp with rfl|hp
   ·exact ⟨hlen,g2⟩
   ·exact h2 p hp
  ·simp only [List.flatten_cons]
   rw [hmk,List.take_add,List.drop_drop]
   exact VRels.append g1 h3
theorem b68 {α β:Type} {f:α → Option β} {l:List α} {r:List β} (h:l.mapM f = some r):∀ x ∈ l,∃ y,f x = some y:=by
 induction l generalizing r with
 | nil=>simp
 | cons a l ih=>
  rw [List.mapM_cons] at h
  intro x hx
  cases hfa:f a with
  | none=>simp [hfa] at h
  | some y=>
   simp only [hfa,Option.bind_eq_bind,Option.bind_some] at h
   cases hl:l.mapM f with
   | none=>simp [hl] at h
   | some r'=>
    simp only [List.mem_cons] at hx
    rcases hx with rfl|hx
    ·exact ⟨y,hfa⟩
    ·exact ih hl x hx
theorem b3q {I:Nat → Prop} {avs:List AV} {cs:List Value} {b off:Nat} (hc:∀ i v,cs[i]? = some v → w.cell? ⟨b,off + i,none⟩ = some v) (h:VRels I w noP avs cs):VAt I w noP avs b off:=
 VAt.of_cells (fun i v hv=>hc i v hv) h
theorem b5x (ok:EnvOk E):∀ (n:Nat) (t:TypeId),a4m E n t = true → ∀ (fuel:Nat) (cs:List Value) (x:DataW H × List MemPlace),DataW.trod enc E.P w base spare held fuel t cs = some x →
 ∃ avs,VRels (Old w) w noP avs cs ∧ Typ E n t avs
 | 0,t,hr=>by simp [a4m] at hr
 | n + 1,t,hr=>by
  intro fuel cs x h
  cases fuel with
  | zero=>simp [DataW.trod] at h
  | succ fuel=>
  have ih:=b5x ok n
  unfold a4m at hr
  unfold DataW.trod at h
  cases hu:E.und t with
  | none=>rw [hu] at hr;simp at hr
  | some d=>
   have hP:=(ok.und t d hu).1
   have hsz:=a3o ok hu
   rw [hu] at hr
   rw [hP] at h
   cases d<;>simp only [Bool.false_eq_true] at hr
   case bool=>
    obtain ⟨b,rfl⟩:∃ b,cs = [.bool b]:=by split at h<;>simp_all
    exact ⟨[.bool b],by simp [VRels,VRel],by simp [Typ,hu]⟩
   case int k=>
    obtain ⟨i,rfl,hw⟩:∃ i,cs = [.int k i] ∧ (Lit.int k i).wf = true:=by
     split at h<;>simp_all
    exact ⟨[.int k i],by simp [VRels,VRel],by simp [Typ,hu,hw]⟩
   case string=>
    obtain ⟨b,rfl,hw⟩:∃ b:ByteArray,cs = [.string b] ∧ b.size ≤ maxLen:=by
     split at h<;>simp_all
    exact ⟨[.str b.data.toList],by simp [VRels,VRel],by simp only [Typ,hu];exact ⟨_,rfl,by simpa using hw⟩⟩
   case slice e=>
    simp only [Bool.and_eq_true,Nat.blt_eq] at hr
    obtain ⟨⟨hr1,hr2⟩,hr3⟩:=hr
    obtain ⟨de,hde⟩:=Option.isSome_iff_exists.1 hr1
    have hsze:=a3o ok hde
    have hkey:cs = [.slice none 0 0] ∨ ∃ a len cap,cs = [.slice (some a) len cap] ∧ len ≤ cap ∧ cap ≤ maxLen ∧
     ∃ elems,((List.range len).mapM fun i=>(w.cells? base (a.add (i * E.P.cellsOf e)) (E.P.cellsOf e)).bind (DataW.trod enc E.P w base spare held fuel e)) = some elems:=by
     split at h
     all_goals first|(rename_i heq;cases heq;done)|(cases h;done)|skip
     ·left;rfl
     ·rename_i e' a len cap heq
      cases heq
      dsimp only at h
      split at h
      case isFalse=>cases h
      rename_i hc
      right
      refine ⟨a,len,cap,rfl,hc.2.1,hc.2.2,?_⟩
      cases hm:((List.range len).mapM fun i=>(w.cells? base (a.add (i * E.P.cellsOf e)) (E.P.cellsOf e)).bind (DataW.trod enc E.P w base spare held fuel e)) with
      | none=>rw [hm] at h;simp at h
      | some elems=>exact ⟨elems,rfl⟩
    rcases hkey with rfl|⟨a,len,cap,rfl,hlc,hcm,elems,hel⟩
    ·exact ⟨[.nilslice],by simp [VRels,VRel],by simp only [Typ,hu];exact .inl trivial⟩
    ·have hrow:∀ i,i < len → ∃ r,Typ E n e r ∧ r.length = E.sz e ∧ VAt (Old w) w noP r a.block (a.off + i * E.sz e) ∧ a.spot = none ∧ a.block < w.heap.size:=by
      have hat:∀ i,i < len → ∃ cs' y,cs'.length = E.sz e ∧ (∀ j,j < E.sz e → w.cell? ((a.add (i * E.sz e)).add j) = cs'[j]?) ∧ DataW.trod enc E.P w base spare held fuel e cs' = some y:=by
       intro i hi
       obtain ⟨y,hy⟩:=b68 hel i (by simpa using hi)
       rw [hsze] at hy
       cases hc:w.cells? base (a.add (i * E.sz e)) (E.sz e) with
       | none=>rw [hc] at hy;simp at hy
       | some cs'=>
        rw [hc] at hy
        obtain ⟨_,h2,h3⟩:=World.cells?_some hc
        exact ⟨cs',y,h2,h3,by simpa using hy⟩
      intro i hi
      have hspot:a.spot = none ∧ a.block < w.heap.size:=by
       obtain ⟨cs0,y0,h1,h2,_⟩:=hat 0 (by omega)
       have h3:=h2 0 hr2
       rw [Nat.zero_mul,show (a.add 0).add 0 = a from by simp [Addr.add],z9e (by omega)] at h3
       unfold World.cell? at h3
       split at h3
       ·rename_i hb
        refine ⟨?_,(Array.getElem?_eq_some_iff.1 hb).1⟩
        cases hs:a.spot with
        | none=>rfl
        | some _=>rw [hs] at h3;simp at h3
       ·cases h3
      obtain ⟨cs',y,h1,h2,h3⟩:=hat i hi
      obtain ⟨r,q1,q2⟩:=ih e hr3 fuel cs' y h3
      refine ⟨r,q2,by rw [VRels.length q1,h1],b3q ?_ q1,hspot⟩
      intro j v hv
      have hj:j < E.sz e:=by rw [← h1];exact (List.getElem?_eq_some_iff.1 hv).1
      have:=h2 j hj
      rw [hv] at this
      rw [← this]
      congr 1
      obtain ⟨ab,ao,as⟩:=a
      obtain ⟨rfl,_⟩:=hspot
      unfold Addr.add
      split<;>split<;>simp_all
     obtain ⟨rows,g1,g2,g3⟩:=c5i (Pr:=Typ E n e) len a.off (fun i hi=>by
      obtain ⟨r,q1,q2,q3,_⟩:=hrow i hi
      exact ⟨r,q1,q2,q3⟩)
     refine ⟨[.islice rows (some cap)],?_,by simp only [Typ,hu];exact .inr ⟨rows,cap,rfl,by omega,hcm,g2⟩⟩
     simp only [VRels]
     refine ⟨_,[],rfl,?_,rfl⟩
     simp only [VRel]
     refine ⟨a,cap,E.sz e,by rw [g1],by omega,by simp,?_⟩
     cases len with
     | zero=>exact .inl (List.length_eq_zero_iff.1 g1)
     | succ len=>
      obtain ⟨_,_,_,_,q4,q5⟩:=hrow 0 (by omega)
      exact .inr ⟨q4,q5,g3⟩
   case struct fs=>
    simp only [Bool.and_eq_true,List.all_eq_true] at hr
    obtain ⟨hr1,hr2⟩:=hr
    split at hr1
    case h_2=>cases hr1
    rename_i m hm
    have hmt:m = E.sz t:=by simpa using hr1
    have hkey:cs.length = E.P.cellsOf t ∧ ∃ xs,(fs.toList.mapM fun f=>DataW.trod enc E.P w base spare held fuel f.type ((cs.drop f.offset).take (E.P.cellsOf f.type))) = some xs:=by
     dsimp only at h
     split at h
     ·rename_i hl
      obtain ⟨xs,hxs,_⟩:=a09 h
      exact ⟨hl,xs,hxs⟩
     ·cases h
    obtain ⟨hlen,xs,hxs⟩:=hkey
    obtain ⟨_,parts,h1,h2,h3⟩:=c1i (E:=E) (I:=Old w) (w:=w) (cs:=cs) (n:=n) fs.toList 0 hm (by omega) (fun f hf=>by
     obtain ⟨y,hy⟩:=b68 hxs f hf
     have h2:=hr2 f hf
     obtain ⟨df,hdf⟩:=Option.isSome_iff_exists.1 h2.1
     rw [a3o ok hdf] at hy
     exact ih f.type h2.2 fuel _ _ hy)
    refine ⟨parts.flatten,?_,by simp only [Typ,hu];exact ⟨parts,rfl,h1,h2⟩⟩
    rw [List.drop_zero,Nat.sub_zero,List.take_of_length_le (by omega)] at h3
    exact h3
   case array m e=>
    simp only [Bool.and_eq_true] at hr
    obtain ⟨⟨hr1,hr2⟩,hr3⟩:=hr
    obtain ⟨de,hde⟩:=Option.isSome_iff_exists.1 hr1
    have hsze:=a3o ok hde
    have hmk:m * E.sz e = E.sz t:=by simpa using hr2
    have hkey:cs.length = E.P.cellsOf t ∧ ∃ xs,((List.range m).mapM fun i=>DataW.trod enc E.P w base spare held fuel e ((cs.drop (i * E.P.cellsOf e)).take (E.P.cellsOf e))) = some xs:=by
     dsimp only at h
     split at h
     ·rename_i hl
      obtain ⟨xs,hxs,_⟩:=a09 h
      exact ⟨hl,xs,hxs⟩
     ·cases h
    obtain ⟨hlen,xs,hxs⟩:=hkey
    obtain ⟨parts,h1,h2,h3⟩:=d4i (E:=E) (I:=Old w) (w:=w) (cs:=cs) (n:=n) (k:=E.sz e) (e:=e) m 0 (by omega) (fun i hi=>by
     obtain ⟨y,hy⟩:=b68 hxs i (by simpa using hi)
     rw [hsze] at hy
     rw [Nat.zero_add]
     exact ih e hr3 fuel _ _ hy)
    refine ⟨parts.flatten,?_,by simp only [Typ,hu];exact ⟨parts,rfl,h1,h2⟩⟩
    rw [List.drop_zero,List.take_of_length_le (by omega)] at h3
    exact h3
end
end Go.Ax
/- AxArgs: a row's arguments as abstract values. -/
namespace Go.Ax
def e03 (E:Env) (n:Nat) (t:TypeId) (av:AV):Prop:=
 match E.und t with
 | some d=>bif a28 d then ∃ avs,av = .agg avs ∧ Typ E n t avs else Typ E n t [av]
 | none=>False
def TypAs (E:Env) (n:Nat):List TypeId → List AV → Prop
 | [],avs=>avs = []
 | t :: ts,avs=>∃ a r,avs = a :: r ∧ e03 E n t a ∧ TypAs E n ts r
section
variable {E:Env} {w:World} {H:Type} {enc:TypeId × Value → H} {spare:Nat → Bool} {held:Bool} {b0:Nat}
theorem e2y (ok:EnvOk E) {n:Nat} {t:TypeId} {v:Value} {d:DataW H} {ps:List MemPlace} (hr:a4m E n t = true) (hv:Value.okWide E.P w .any b0 t v) (h:DataW.Trod enc E.P w 0 spare held t v d ps) :
 ∃ a,VRel (Old w) w noP a v ∧ e03 E n t a:=by
 obtain ⟨fuel,hf⟩:=h
 obtain ⟨avs,h1,h2⟩:=b5x ok n t hr fuel _ _ hf
 cases hu:E.und t with
 | none=>cases n<;>simp [a4m,hu] at hr
 | some dd=>
  have hP:=(ok.und t dd hu).1
  unfold Value.okWide at hv
  rw [hP] at hv
  cases hag:a28 dd with
  | true=>
   have hv:∃ cs,v = .agg cs ∧ cs.size = E.P.cellsOf t ∧ Row.okWide E.P w .any b0 t cs:=by
    cases dd<;>simp [a28] at hag<;>exact hv
   obtain ⟨cs,rfl,_,_⟩:=hv
   exact ⟨.agg avs,by simp only [VRel];exact ⟨cs,rfl,h1⟩,by simp only [e03,hu,hag,cond_true];exact ⟨avs,rfl,h2⟩⟩
  | false=>
   have hcell:v.cells = #[v]:=by
    cases v with
    | agg cs=>
     exfalso
     cases dd<;>simp [a28] at hag<;>simp [Cell.okWide,Cell.ok,hP] at hv
    | _=>rfl
   rw [hcell] at h1
   have h3:=h1
   obtain ⟨a,rfl⟩:∃ a,avs = [a]:=by
    have:=VRels.length h1
    match avs,this with
    | [a],_=>exact ⟨a,rfl⟩
   simp only [VRels] at h3
   obtain ⟨c,_,hc,h4,rfl⟩:=h3
   simp only [List.cons.injEq,and_true] at hc
   subst hc
   exact ⟨a,h4,by simp only [e03,hu,hag,cond_false];exact h2⟩
theorem c8r (ok:EnvOk E) {n:Nat}:∀ (ts:List TypeId) (vs:List Value) (ds:List (DataW H)) (ps:List MemPlace),DataW.TrodAll enc E.P w 0 spare held ts vs ds ps →
 (∀ (j:Nat) t v,ts[j]? = some t → vs[j]? = some v → Value.okWide E.P w .any b0 t v) → (ts.all (a4m E n)) = true → ∃ args,VRels (Old w) w noP args vs ∧ TypAs E n ts args
 | [],vs,ds,ps,h,_,_=>by
  cases vs with
  | nil=>exact ⟨[],by simp [VRels],rfl⟩
  | cons v vs=>cases ds<;>simp [DataW.TrodAll] at h
 | t :: ts,vs,ds,ps,h,hv,hr=>by
  cases vs with
  | nil=>cases ds<;>simp [DataW.TrodAll] at h
  | cons v vs=>
   cases ds with
   | nil=>simp [DataW.TrodAll] at h
   | cons d ds=>
    simp only [DataW.TrodAll] at h
    obtain ⟨p,q,h1,h2,_⟩:=h
    simp only [List.all_cons,Bool.and_eq_true] at hr
    obtain ⟨a,g1,g2⟩:=e2y ok hr.1 (hv 0 t v rfl rfl) h1
    obtain ⟨r,g3,g4⟩:=c8r ok ts vs ds q h2 (fun j t v ht hv'=>hv (j + 1) t v (by simpa using ht) (by simpa using hv')) hr.2
    exact ⟨a :: r,by simp only [VRels];exact ⟨v,vs,rfl,g1,g3⟩,⟨a,r,rfl,g2,g4⟩⟩
end
end Go.Ax
/- AxLaid: what a listed package-level variable d0q as, as abstract cells. -/
namespace Go.Ax
def c2a (E:Env) (f:TypeId → DataW Unit → Option (List AV)):Nat → List Field → List (DataW Unit) → Option (List AV)
 | _,[],[]=>some []
 | o,x :: fs,d :: ds=>bif Nat.beq x.offset o && (E.und x.type).isSome then
  match f x.type d,c2a E f (o + E.sz x.type) fs ds with
  | some a,some b=>bif Nat.beq a.length (E.sz x.type) then some (a ++ b) else none
  | _,_=>none
  else none
 | _,_,_=>none
def b39 (k:Nat) (f:DataW Unit → Option (List AV)):List (DataW Unit) → Option (List (List AV))
 | []=>some []
 | d :: ds=>match f d,b39 k f ds with
  | some a,some b=>bif Nat.beq a.length k then some (a :: b) else none
  | _,_=>none
def b42 (E:Env):Nat → TypeId → DataW Unit → Option (List AV)
 | 0,_,_=>none
 | n + 1,t,d=>match E.und t,d with
  | some .bool,.lit (.bool b)=>some [.bool b]
  | some (.int k),.lit (.int k' i)=>bif k == k' then some [.int k i] else none
  | some .string,.lit (.string s)=>some [.str s]
  | some (.struct fs),.agg ds=>match c2a E (b42 E n) 0 fs.toList ds with
   | some avs=>bif Nat.beq avs.length (E.sz t) then some avs else none
   | none=>none
  | some (.array m e),.agg ds=>bif (E.und e).isSome && Nat.beq (m * E.sz e) (E.sz t) && Nat.beq ds.length m then (b39 (E.sz e) (b42 E n e) ds).map List.flatten else none
  | some (.slice _),.nil=>some [.nilslice]
  | some (.slice e),.slice es spare=>bif (E.und e).isSome && Nat.blt 0 (E.sz e) && Nat.blt 0 es.length then (b39 (E.sz e) (b42 E n e) es).map fun rows=>[.islice rows (some (es.length + spare.length))] else none
  | _,_=>none
section
variable {E:Env} {w:World} {enc:TypeId × Value → Unit} {base:Nat} {held:Bool}
theorem a76 {α β:Type} {f:α → Option β} {a:α} {l:List α} {r:List β} (h:(a :: l).mapM f = some r):∃ b r',f a = some b ∧ l.mapM f = some r' ∧ r = b :: r':=by
 rw [List.mapM_cons] at h
 cases hfa:f a with
 | none=>simp [hfa] at h
 | some y=>
  simp only [hfa,Option.bind_eq_bind,Option.bind_some] at h
  cases hl:l.mapM f with
  | none=>simp [hl] at h
  | some r'=>simp only [hl,Option.bind_some] at h;cases h;exact ⟨y,r',rfl,rfl,rfl⟩
theorem b66 {α β:Type} {f:α → Option β}:∀ {l:List α} {r:List β},l.mapM f = some r → r.length = l.length
 | [],r,h=>by cases h;rfl
 | a :: l,r,h=>by
  obtain ⟨b,r',_,h2,rfl⟩:=a76 h
  simp [b66 h2]
theorem b67 {α β:Type} {f:α → Option β}:∀ {l:List α} {r:List β},l.mapM f = some r → ∀ (i:Nat) a,l[i]? = some a → ∃ b,f a = some b ∧ r[i]? = some b
 | [],r,h,i,a,ha=>by simp at ha
 | x :: l,r,h,i,a,ha=>by
  obtain ⟨b,r',h1,h2,rfl⟩:=a76 h
  cases i with
  | zero=>simp only [List.getElem?_cons_zero,Option.some.injEq] at ha;subst ha;exact ⟨b,h1,rfl⟩
  | succ i=>simp only [List.getElem?_cons_succ] at ha ⊢;exact b67 h2 i a ha
theorem b0t {k:Nat} {f:DataW Unit → Option (List AV)}:∀ {ds:List (DataW Unit)} {rows:List (List AV)},b39 k f ds = some rows → rows.length = ds.length
 | [],rows,h=>by cases h;rfl
 | d :: ds,rows,h=>by
  simp only [b39] at h
  split at h
  case h_2=>cases h
  rename_i a b ha hb
  rw [cond_eq_ite] at h
  split at h
  ·cases h;simp [b0t hb]
  ·cases h
theorem b0u {k:Nat} {f:DataW Unit → Option (List AV)}:∀ {ds:List (DataW Unit)} {rows:List (List AV)},b39 k f ds = some rows → ∀ (i:Nat) d,ds[i]? = some d → ∃ a,f d = some a ∧ a.length = k ∧ rows[i]? = some a
 | [],rows,h,i,d,hd=>by simp at hd
 | x :: ds,rows,h,i,d,hd=>by
  simp only [b39] at h
  split at h
  case h_2=>cases h
  rename_i a b ha hb
  rw [cond_eq_ite] at h
  split at h
  case isFalse=>cases h
  rename_i hk
  cases h
  cases i with
  | zero=>simp only [List.getElem?_cons_zero,Option.some.injEq] at hd;subst hd;exact ⟨a,ha,by simpa using hk,rfl⟩
  | succ i=>simp only [List.getElem?_cons_succ] at hd ⊢;exact b0u hb i d hd
theorem b3b {I:Nat → Prop} {cs:List Value} {f:TypeId → DataW Unit → Option (List AV)} {g:Field → Option (DataW Unit × List MemPlace)}
 (hg:∀ x y avs,g x = some y → f x.type y.1 = some avs → VRels I w noP avs ((cs.drop x.offset).take (E.sz x.type))) :
 ∀ (fs:List Field) (o:Nat) {xs:List (DataW Unit × List MemPlace)} {avs:List AV},fs.mapM g = some xs → c2a E f o fs (xs.map (·.1)) = some avs → VRels I w noP avs ((cs.drop o).take avs.length)
 | [],o,xs,avs,hm,hf=>by
  cases hm
  cases hf
  simp [VRels]
 | x :: fs,o,xs,avs,hm,hf=>by
  obtain ⟨y,ys,h1,h2,rfl⟩:=a76 hm
  simp only [List.map_cons,c2a] at hf
  rw [cond_eq_ite] at hf
  split at hf
  case isFalse=>cases hf
  rename_i hc
  simp only [Bool.and_eq_true,Nat.beq_eq] at hc
  split at hf
  case h_2=>cases hf
  rename_i a b ha hb
  rw [cond_eq_ite] at hf
  split at hf
  case isFalse=>cases hf
  rename_i hl
  rw [Nat.beq_eq] at hl
  cases hf
  have ih:=b3b hg fs _ h2 hb
  have h3:=hg x y a h1 ha
  rw [hc.1,← hl] at h3
  rw [List.length_append,List.take_add,List.drop_drop,hl] at *
  exact VRels.append h3 ih
theorem b7l {I:Nat → Prop} {cs:List Value} {k:Nat}:∀ (rows:List (List AV)) (o:Nat),(∀ (i:Nat) r,rows[i]? = some r → r.length = k ∧ VRels I w noP r ((cs.drop (o + i * k)).take k)) →
 VRels I w noP rows.flatten ((cs.drop o).take (rows.length * k))
 | [],o,_=>by simp [VRels]
 | r :: rows,o,h=>by
  have h0:=h 0 r rfl
  have ih:=b7l rows (o + k) (fun i r hr=>by
   have:=h (i + 1) r (by simpa using hr)
   rw [show o + k + i * k = o + (i + 1) * k by rw [Nat.add_mul];omega];exact this)
  simp only [List.flatten_cons,List.length_cons]
  rw [show (rows.length + 1) * k = k + rows.length * k by rw [Nat.add_mul];omega,List.take_add,List.drop_drop]
  refine VRels.append ?_ ih
  simpa using h0.2
theorem b86 (ok:EnvOk E):∀ (n:Nat) (t:TypeId) (fuel:Nat) (cs:List Value) (x:DataW Unit × List MemPlace) (avs:List AV),DataW.trod enc E.P w base (fun _=>true) held fuel t cs = some x → b42 E n t x.1 = some avs →
 VRels (Old w) w noP avs cs
 | 0,t,fuel,cs,x,avs,_,hf=>by simp [b42] at hf
 | n + 1,t,0,cs,x,avs,h,hf=>by simp [DataW.trod] at h
 | n + 1,t,fuel + 1,cs,x,avs,h,hf=>by
  have ih:=b86 ok n
  unfold b42 at hf
  unfold DataW.trod at h
  cases hu:E.und t with
  | none=>rw [hu] at hf;simp at hf
  | some dd=>
   have hP:=(ok.und t dd hu).1
   have hszt:=a3o ok hu
   rw [hu] at hf
   rw [hP] at h
   cases dd
   case bool=>
    obtain ⟨b,rfl,rfl⟩:∃ b,cs = [.bool b] ∧ x = (.lit (.bool b),[]):=by split at h<;>simp_all
    simp only [Option.some.injEq] at hf
    subst hf
    simp [VRels,VRel]
   case int k=>
    obtain ⟨b,rfl,rfl⟩:∃ b,cs = [.int k b] ∧ x = (.lit (.int k b),[]):=by split at h<;>simp_all
    simp only [cond_eq_ite] at hf
    split at hf
    ·cases hf;simp [VRels,VRel]
    ·cases hf
   case string=>
    obtain ⟨b,rfl,rfl⟩:∃ b:ByteArray,cs = [.string b] ∧ x = (.lit (.string b.data.toList),[]):=by split at h<;>simp_all
    simp only [Option.some.injEq] at hf
    subst hf
    simp [VRels,VRel]
   case struct fs=>
    dsimp only at h
    split at h
    case isFalse=>cases h
    rename_i hl
    obtain ⟨xs,hxs,rfl⟩:=a09 h
    dsimp only at hf
    split at hf
    case h_2=>cases hf
    rename_i avs' hff
    rw [cond_eq_ite] at hf
    split at hf
    case isFalse=>cases hf
    rename_i hl2
    rw [Nat.beq_eq] at hl2
    cases hf
    have key:=b3b (E:=E) (I:=Old w) (w:=w) (cs:=cs) (f:=b42 E n)
     (g:=fun f=>DataW.trod enc E.P w base (fun _=>true) held fuel f.type ((cs.drop f.offset).take (E.P.cellsOf f.type))) ?_ fs.toList 0 hxs hff
    ·rw [List.drop_zero,List.take_of_length_le (by omega)] at key
     exact key
    ·intro x y avs hy hfa
     have hund:∃ dx,E.und x.type = some dx:=by
      cases n with
      | zero=>simp [b42] at hfa
      | succ n=>unfold b42 at hfa;cases hux:E.und x.type with
       | none=>rw [hux] at hfa;simp at hfa
       | some dx=>exact ⟨dx,rfl⟩
     obtain ⟨dx,hdx⟩:=hund
     rw [a3o ok hdx] at hy
     exact ih x.type fuel _ y avs hy hfa
   case array m e=>
    dsimp only at h
    split at h
    case isFalse=>cases h
    rename_i hl
    obtain ⟨xs,hxs,rfl⟩:=a09 h
    dsimp only at hf
    rw [cond_eq_ite] at hf
    split at hf
    case isFalse=>cases hf
    rename_i hc
    simp only [Bool.and_eq_true,Nat.beq_eq] at hc
    obtain ⟨rows,hrows,rfl⟩:=a09 hf
    obtain ⟨de,hde⟩:=Option.isSome_iff_exists.1 hc.1.1
    have hsze:=a3o ok hde
    have hlen:rows.length = m:=by rw [b0t hrows];simpa using hc.2
    have key:=b7l (I:=Old w) (w:=w) (cs:=cs) (k:=E.sz e) rows 0 (fun i r hr=>by
     have hi:i < m:=by rw [← hlen];exact (List.getElem?_eq_some_iff.1 hr).1
     obtain ⟨y,hy,hyi⟩:=b67 hxs i i (by simp [hi])
     obtain ⟨a,ha,hal,hai⟩:=b0u hrows i y.1 (by simp [hyi])
     rw [hr] at hai
     cases hai
     refine ⟨hal,?_⟩
     rw [Nat.zero_add]
     rw [hsze] at hy
     exact ih e fuel _ y r hy ha)
    rw [List.drop_zero,List.take_of_length_le (by rw [hlen];omega)] at key
    exact key
   case slice e=>
    split at h
    all_goals first|(rename_i heq;cases heq;done)|(cases h;done)|skip
    ·cases h
     simp only [Option.some.injEq] at hf
     subst hf
     simp [VRels,VRel]
    ·rename_i e' a len cap heq
     cases heq
     dsimp only at h
     split at h
     case isFalse=>cases h
     rename_i hc
     cases hm:((List.range len).mapM fun i=>(w.cells? base (a.add (i * E.P.cellsOf e)) (E.P.cellsOf e)).bind (DataW.trod enc E.P w base (fun _=>true) held fuel e)) with
     | none=>rw [hm] at h;simp at h
     | some elems=>
      rw [hm] at h
      simp only [Option.bind_some,if_true] at h
      obtain ⟨rest,hrest,rfl⟩:=a09 h
      dsimp only at hf
      rw [cond_eq_ite] at hf
      split at hf
      case isFalse=>cases hf
      rename_i hc2
      simp only [Bool.and_eq_true,Nat.blt_eq,List.length_map] at hc2
      obtain ⟨rows,hrows,rfl⟩:=a09 hf
      obtain ⟨de,hde⟩:=Option.isSome_iff_exists.1 hc2.1.1
      have hsze:=a3o ok hde
      have hlr:rows.length = elems.length:=by rw [b0t hrows];simp
      have hle:elems.length = len:=by rw [b66 hm];simp
      have hlrest:rest.length = cap - len:=by rw [b66 hrest];simp
      have hat:∀ i,i < len → ∃ cs' y,elems[i]? = some y ∧ cs'.length = E.sz e ∧ (∀ j,j < E.sz e → w.cell? ((a.add (i * E.sz e)).add j) = cs'[j]?) ∧ DataW.trod enc E.P w base (fun _=>true) held fuel e cs' = some y:=by
       intro i hi
       obtain ⟨y,hy,hyi⟩:=b67 hm i i (by simp [hi])
       rw [hsze] at hy
       cases hcs:w.cells? base (a.add (i * E.sz e)) (E.sz e) with
       | none=>rw [hcs] at hy;simp at hy
       | some cs'=>
        rw [hcs] at hy
        obtain ⟨_,h2,h3⟩:=World.cells?_some hcs
        exact ⟨cs',y,hyi,h2,h3,by simpa using hy⟩
      have hspot:a.spot = none ∧ a.block < w.heap.size:=by
       obtain ⟨cs0,y0,_,h1,h2,_⟩:=hat 0 (by omega)
       have h3:=h2 0 hc2.1.2
       rw [Nat.zero_mul,show (a.add 0).add 0 = a from by simp [Addr.add],z9e (by omega)] at h3
       unfold World.cell? at h3
       split at h3
       ·rename_i hb
        refine ⟨?_,(Array.getElem?_eq_some_iff.1 hb).1⟩
        cases hs:a.spot with
        | none=>rfl
        | some _=>rw [hs] at h3;simp at h3
       ·cases h3
      simp only [VRels]
      refine ⟨_,[],rfl,?_,rfl⟩
      simp only [VRel]
      refine ⟨a,cap,E.sz e,by rw [hlr,hle],by omega,fun n hn=>by cases hn;simp;omega,.inr ⟨hspot.1,hspot.2,?_⟩⟩
      have key:∀ (rows':List (List AV)) (o:Nat),(∀ (i:Nat) r,rows'[i]? = some r → r.length = E.sz e ∧ VAt (Old w) w noP r a.block (a.off + (o + i) * E.sz e)) → VRows (Old w) w (E.sz e) noP rows' a.block (a.off + o * E.sz e):=by
       intro rows'
       induction rows' with
       | nil=>intro o _;simp [VRows]
       | cons r rs ihr=>
        intro o hh
        have h0:=hh 0 r rfl
        simp only [VRows]
        refine ⟨h0.1,by simpa using h0.2,?_⟩
        rw [show a.off + o * E.sz e + E.sz e = a.off + (o + 1) * E.sz e by rw [Nat.add_mul];omega]
        refine ihr (o + 1) (fun i r hr=>?_)
        have:=hh (i + 1) r (by simpa using hr)
        rw [show o + 1 + i = o + (i + 1) by omega]
        exact this
      have:=key rows 0 (fun i r hr=>by
       have hi:i < len:=by rw [← hle,← hlr];exact (List.getElem?_eq_some_iff.1 hr).1
       obtain ⟨cs',y,h0,h1,h2,h3⟩:=hat i hi
       obtain ⟨av,ha,hal,hai⟩:=b0u hrows i y.1 (by simp [h0])
       rw [hr] at hai
       cases hai
       refine ⟨hal,?_⟩
       rw [Nat.zero_add]
       refine b3q ?_ (ih e fuel _ y r h3 ha)
       intro j v hv
       have hj:j < E.sz e:=by rw [← h1];exact (List.getElem?_eq_some_iff.1 hv).1
       have:=h2 j hj
       rw [hv] at this
       rw [← this]
       congr 1
       obtain ⟨ab,ao,as⟩:=a
       obtain ⟨rfl,_⟩:=hspot
       unfold Addr.add
       split<;>split<;>simp_all)
      simpa using this
   all_goals (simp only at hf;first|(cases hf;done)|(split at hf<;>cases hf))
theorem holds_of_laid (ok:EnvOk E) {laid:List (String × DataW Unit)} (h:laidMet E.P laid w)
 (hG:∀ g cs,E.G g = some cs → ∃ x ∈ laid,E.P.globalNamed x.1 = some g ∧ ∃ t,(E.P.globals[g]?).map (·.type) = some t ∧ b42 E 8 t x.2 = some cs):Holds E w:=by
 obtain ⟨ps,hv,hnd,hcell⟩:=h
 have hall:∀ (l:List (String × DataW Unit)) ps,DataW.LaidVars E.P w l ps → ∀ x ∈ l,∃ g t cs fuel p,E.P.globalNamed x.1 = some g ∧ (E.P.globals[g]?).map (·.type) = some t ∧ w.var? E.P x.1 = some cs ∧ DataW.trod (fun _=>()) E.P w 0 (fun _=>true) false fuel t cs.toList = some (x.2,p):=by
  intro l
  induction l with
  | nil=>intro ps _ x hx;simp at hx
  | cons y r ih=>
   intro ps hv x hx
   obtain ⟨n,d⟩:=y
   simp only [DataW.LaidVars] at hv
   obtain ⟨g,t,cs,fuel,p,q,h1,h2,h3,h4,h5,_⟩:=hv
   simp only [List.mem_cons] at hx
   rcases hx with rfl|hx
   ·exact ⟨g,t,cs,fuel,p,h1,h2,h3,h4⟩
   ·exact ih q h5 x hx
 intro g cs hg
 obtain ⟨x,hx,h1,t,h2,h3⟩:=hG g cs hg
 obtain ⟨g',t',cs',fuel,p,k1,k2,k3,k4⟩:=hall laid ps hv x hx
 obtain rfl:g' = g:=z9o (k1.symm.trans h1)
 obtain rfl:t' = t:=z9o (k2.symm.trans h2)
 have hr:=b86 ok 8 t' fuel _ (x.2,p) cs k4 h3
 unfold World.var? at k3
 rw [k1] at k3
 simp only [Option.bind_some] at k3
 split at k3
 case h_2=>cases k3
 rename_i cs2 e fz hheap
 cases k3
 refine ⟨(Array.getElem?_eq_some_iff.1 hheap).1,?_⟩
 refine VAt.of_cells (cs:=cs'.toList) (CellsAt.of_heap hheap ?_) hr
 intro j v hv
 simpa using hv
end
end Go.Ax
/- AxLaw: from a run of a law's body that answers true, for all d52 arguments, to what a row asks. -/
namespace Go.Ax
open Go.ChangeShapes Go.WideShapes Go.RowKit
section
variable {E:Env} {H:Type} {enc:TypeId × Value → H}
theorem a9e {P:Program} (hl:laidOutB P = true) {W W':World} (hb:Below W.heap.size W W') {sp:Nat → Bool}:∀ (ts:List TypeId) (vs:List Value) (ds:List (DataW H)) (ps:List MemPlace),
 (ts.all fun t=>P.readableRec t && decide (t < P.types.size)) = true → (∀ p ∈ ps,p.block < W.heap.size) → (∀ p ∈ ps,sp p.block = true) →
 DataW.TrodAll enc P W 0 (fun _=>true) true ts vs ds ps → DataW.TrodAll enc P W' 0 sp true ts vs ds ps
 | [],vs,ds,ps,_,_,_,h=>by
  cases vs<;>cases ds<;>simp only [DataW.TrodAll] at h ⊢<;>exact h
 | t :: ts,vs,ds,ps,hr,hlt,hs,h=>by
  cases vs with
  | nil=>simp [DataW.TrodAll] at h
  | cons v vs=>
   cases ds with
   | nil=>simp [DataW.TrodAll] at h
   | cons d ds=>
    simp only [DataW.TrodAll] at h ⊢
    obtain ⟨p,q,h1,h2,rfl⟩:=h
    simp only [List.all_cons,Bool.and_eq_true,decide_eq_true_eq] at hr
    refine ⟨p,q,?_,a9e hl hb ts vs ds q hr.2 (fun x hx=>hlt x (by simp [hx])) (fun x hx=>hs x (by simp [hx])) h2,rfl⟩
    exact WideElems.Trod_stays hl hr.1.1 hr.1.2 h1 (fun x hx=>hb.same (hlt x (by simp [hx]))) (fun x hx=>hs x (by simp [hx]))
theorem d18 {P:Program} (hl:laidOutB P = true) {f:Func} {s:ChangeSpec} (hvs:s.vars = []) {n:Nat} (hn:f.params.toList.length = n)
 (hs:∀ ds:List (DataW H),ds.length = n → (s.fn H ds).results = [.lit (.bool true)] ∧ (s.fn H ds).args = ds ∧ (s.fn H ds).vars = []) {tb:TypeId} (hres:f.resultTypes = #[tb]) (htb:P.underlying tb = some .bool)
 (hpar:(f.params.toList.all fun t=>P.readableRec t && decide (t < P.types.size)) = true)
 {W W':World} {args:Array Value} {ds gs:List (DataW H)} {before:List MemPlace} (hW:DataW.Whole enc P f.params.toList s.vars false W args.toList ds gs before) (hb:Below W.heap.size W W') :
 s.post enc P f false true false false W args (.bool true) W':=by
 have hlt:∀ p ∈ before,p.block < W.heap.size:=fun p hp=>hW.lt p hp
 have hold:∀ p ∈ before,(fun b=>decide (b < W.heap.size)) p.block = true:=fun p hp=>by simpa using hlt p hp
 have hW0:=hW
 obtain ⟨p,q,hA,hV,rfl,hz,hnd⟩:=hW
 rw [hvs] at hV
 obtain ⟨rfl,rfl⟩:=trodVars_none hV
 have hlen:ds.length = n:=by
  have:∀ (ts:List TypeId) (vs:List Value) (ds:List (DataW H)) (ps:List MemPlace),DataW.TrodAll enc P W 0 (fun _=>true) true ts vs ds ps → ds.length = ts.length:=by
   intro ts
   induction ts with
   | nil=>intro vs ds ps h;cases vs<;>cases ds<;>simp [DataW.TrodAll] at h<;>rfl
   | cons t ts ih=>
    intro vs ds ps h
    cases vs with
    | nil=>simp [DataW.TrodAll] at h
    | cons v vs=>cases ds with
     | nil=>simp [DataW.TrodAll] at h
     | cons d ds=>
      simp only [DataW.TrodAll] at h
      obtain ⟨p,q,_,h2,_⟩:=h
      simp [ih vs ds q h2]
  rw [this _ _ _ _ hA,hn]
 obtain ⟨s1,s2,s3⟩:=hs (ds ++ []) (by simpa using hlen)
 rw [List.append_nil] at hlt hold
 have hargs:∀ sp:Nat → Bool,(∀ x ∈ p,sp x.block = true) → DataW.TrodAll enc P W' 0 sp true f.params.toList args.toList (s.fn H (ds ++ [])).args p:=by
  intro sp hsp
  rw [s2,List.append_nil]
  exact a9e hl hb _ _ _ _ hpar hlt hsp hA
 have hvars:∀ sp:Nat → Bool,DataW.TrodVars enc P W' sp s.vars (s.fn H (ds ++ [])).vars []:=by
  intro sp
  rw [s3,hvs]
  rfl
 have hr1:∀ (b:Nat) (sp:Nat → Bool) (hd:Bool),DataW.TrodAll enc P W' b sp hd f.resultTypes.toList ((Value.bool true).resultList f.resultTypes.size) (s.fn H (ds ++ [])).results []:=by
  intro b sp hd
  rw [s1,hres]
  exact ⟨[],[],⟨1,by simp [DataW.trod,htb,Value.cells]⟩,rfl,rfl⟩
 refine ⟨ds,[],p ++ [],[],p,[],hW0,hr1 _ _ _,hargs _ hold,hvars _,World.keptBut_mono (fun x hx=>⟨hx,?_⟩) (hb.frame (·∈ p ++ [])),fun _=>?_⟩
 ·simpa using hx
 ·refine ⟨?_,_,_,([] ++ p) ++ [],⟨[] ++ p,[],trodAll_append (hargs _ (fun _ _=>rfl)) (hr1 _ _ _),hvars _,rfl,?_,?_⟩,?_⟩
  ·intro j t r hj hv
   rw [hres] at hj hv
   match j,hj,hv with
   | 0,hj,hv=>
    simp [Value.resultList] at hj hv
    subst hj;subst hv
    exact okWide_bool_mk htb true
  ·intro b off hp
   have hin:MemPlace.cell b off ∈ p:=by simpa using hp
   rw [hb.frozen (hlt _ hin)]
   exact hz b off (by simpa using hin)
  ·intro ha;cases ha
  ·intro x hx _
   simpa using hx
theorem law_contract (ok:EnvOk E) (hl:laidOutB E.P = true) {f:FuncId} {fn:Func} {run:List AV → a06 → Option (AV × a06)} (hf:b75 E f run) {m:Nat}
 (hread:(fn.params.toList.all (a4m E m)) = true) (hrun:∀ args,TypAs E m fn.params.toList args → ∃ H',run args [] = some (.bool true,H'))
 {s:ChangeSpec} (hvs:s.vars = []) {n:Nat} (hn:fn.params.toList.length = n)
 (hs:∀ ds:List (DataW H),ds.length = n → (s.fn H ds).results = [.lit (.bool true)] ∧ (s.fn H ds).args = ds ∧ (s.fn H ds).vars = []) {tb:TypeId} (hres:fn.resultTypes = #[tb]) (htb:E.P.underlying tb = some .bool)
 (hpar:(fn.params.toList.all fun t=>E.P.readableRec t && decide (t < E.P.types.size)) = true)
 (W:World) (base:Nat) (args:Array Value) (ds gs:List (DataW H)) (before:List MemPlace)
 (hval:∀ (j:Nat) t v,fn.params[j]? = some t → args[j]? = some v → Value.okWide E.P W .any base t v)
 (hW:DataW.Whole enc E.P fn.params.toList s.vars false W args.toList ds gs before) (hG:Holds E W) :
 Calls E.P f args W fun e W'=>∃ v,e = .returned v ∧ s.post enc E.P fn false true false false W args v W':=by
 have hA:=hW
 obtain ⟨p,q,hA,_⟩:=hA
 obtain ⟨avs,h1,h2⟩:=c8r (b0:=base) ok (n:=m) fn.params.toList args.toList ds p hA (fun j t v ht hv=>hval j t v (by simpa using ht) (by simpa using hv)) hread
 obtain ⟨H',hr⟩:=hrun avs h2
 have:=c9z hf hr hG h1
 rw [Array.toArray_toList] at this
 refine this.mono ?_
 rintro e W' ⟨rfl,hb⟩
 exact ⟨_,rfl,d18 hl hvs hn hs hres htb hpar hW hb⟩
end
end Go.Ax
/- AxSem: what a call comes to, a6z fuel for the calls: a function 'sem', closed under running a body over itself. No condition. -/
namespace Go.Ax
abbrev CallF:=FuncId → List AV → a06 → Option (AV × a06)
def CallF.le (c c':CallF):Prop:=∀ g a H r,c g a H = some r → c' g a H = some r
theorem b8w {r r':List AV → a06 → Option (AV × a06)} (h:∀ a H x,r a H = some x → r' a H = some x) {args:List AV} {H:a06} {x:AV × a06 × List Nat}
 (hc:a2t r args H = some x):a2t r' args H = some x:=by
 unfold a2t at hc ⊢
 simp only at hc ⊢
 rw [cond_eq_ite] at hc ⊢
 split at hc
 case isFalse=>cases hc
 rename_i h1
 rw [if_pos h1]
 split at hc
 case h_2=>cases hc
 rename_i v H1 hr
 rw [h _ _ _ hr]
 exact hc
section
variable {E:Env} {draw:Bool} {N:Nat} {c c':CallF} (hc:CallF.le c c')
include hc
theorem c4c {f:AV} {args:List AV} {H:a06} {x:AV × a06 × List Nat} (h:a0e E draw c f args H = some x):a0e E draw c' f args H = some x:=by
 unfold a0e at h ⊢
 split at h
 case h_2=>cases h
 rename_i g fs cs
 rw [cond_eq_ite] at h ⊢
 split at h
 ·rename_i h1;rw [if_pos h1];exact h
 ·rename_i h1
  rw [if_neg h1]
  rw [cond_eq_ite] at h ⊢
  split at h
  case isFalse=>cases h
  rename_i h2
  rw [if_pos h2]
  split at h
  case h_2=>cases h
  rename_i v H' σ hr
  rw [b8w (fun a H x=>hc g a H x) hr]
  exact h
theorem b9m {F:Frm} {H:a06} {op:Op} {x:AV × a06 × LogE} (h:a0z E draw c F H op = some x):a0z E draw c' F H op = some x:=by
 unfold a0z at h ⊢
 split at h
 ·split at h
  case h_2=>cases h
  rename_i v H' σ hr
  rw [c4c hc hr]
  exact h
 ·exact h
theorem b9r {R:Type} {all:List Oper} {k k':Frm → a06 → Option R} (hk:∀ F H r,k F H = some r → k' F H = some r):∀ (ops:List Oper) (log:List LogE) (F:Frm) (H:a06) {r:R},
 a2d E draw N c all ops log F H k = some r → a2d E draw N c' all ops log F H k' = some r:=by
 intro ops
 induction ops with
 | nil=>
  intro log F H r h
  unfold a2d at h ⊢
  rw [cond_eq_ite] at h ⊢
  split at h
  case isFalse=>cases h
  rename_i h1
  rw [if_pos h1]
  exact hk _ _ _ h
 | cons o rest ih=>
  have step:∀ (log:List LogE) (F F':Frm) (H:a06) (op:Op) (r:R),(match a0z E draw c F H op with
   | some (v,H',l)=>a2d E draw N c all rest (l :: log) (a3h F' o.dst v) H' k
   | none=>none) = some r → (match a0z E draw c' F H op with
   | some (v,H',l)=>a2d E draw N c' all rest (l :: log) (a3h F' o.dst v) H' k'
   | none=>none) = some r:=by
   intro log F F' H op r h
   split at h
   case h_2=>cases h
   rename_i v H' l hs
   rw [b9m hc hs]
   exact ih _ _ _ h
  intro log F H r h
  unfold a2d at h ⊢
  rw [cond_eq_ite] at h ⊢
  split at h
  case isFalse=>cases h
  rename_i h1
  rw [if_pos h1]
  split at h
  ·exact step _ _ _ _ _ _ h
  ·rename_i j want hg
   split at h
   ·cases h
   ·rename_i d hd
    split at h
    ·rename_i b hb
     rw [cond_eq_ite] at h ⊢
     split at h
     ·rename_i hbt
      rw [if_pos hbt]
      rw [cond_eq_ite] at h ⊢
      split at h
      ·rename_i hw;rw [if_pos hw];exact step _ _ _ _ _ _ h
      ·rename_i hw;rw [if_neg hw];exact ih _ _ _ h
     ·rename_i hbt
      rw [if_neg hbt]
      rw [cond_eq_ite] at h ⊢
      split at h
      ·rename_i hw;rw [if_pos hw];exact ih _ _ _ h
      ·rename_i hw;rw [if_neg hw];exact step _ _ _ _ _ _ h
    ·exact ih _ _ _ h
    ·cases h
omit hc in
theorem b4r {m0:Nat} {keep:List Nat} {R:Type} {b b':Frm → a06 → (AExit → Frm → a06 → Option R) → Option R}
 (hb:∀ F H (k k':AExit → Frm → a06 → Option R),(∀ e F H r,k e F H = some r → k' e F H = some r) → ∀ r,b F H k = some r → b' F H k' = some r):∀ (n n':Nat),n ≤ n' → ∀ (F:Frm) (H:a06) (k k':AExit → Frm → a06 → Option R),(∀ e F H r,k e F H = some r → k' e F H = some r) → ∀ {r:R},
 b1e m0 keep b n F H k = some r → b1e m0 keep b' n' F H k' = some r
 | 0,_,_,F,H,k,k',_,r,h=>by simp [b1e] at h
 | n + 1,0,hn,F,H,k,k',_,r,h=>by omega
 | n + 1,n' + 1,hn,F,H,k,k',hk,r,h=>by
  unfold b1e at h ⊢
  simp only at h ⊢
  rw [cond_eq_ite] at h ⊢
  split at h
  case isFalse=>cases h
  rename_i h1
  rw [if_pos h1]
  refine hb _ _ _ _ ?_ r h
  intro e F H r h
  cases e with
  | normal=>exact b4r hb n n' (by omega) F H k k' hk h
  | exit id=>exact hk _ _ _ _ h
  | ret=>exact hk _ _ _ _ h
theorem c97 {m0 lf lf':Nat} (hl:lf ≤ lf') {keep:Nat → List Nat} {R:Type}:∀ (code:Code) (cur:Nat) (F:Frm) (H:a06) (k k':AExit → Frm → a06 → Option R),(∀ e F H r,k e F H = some r → k' e F H = some r) → ∀ {r:R},
 a6b E m0 N keep c lf cur code F H k = some r → a6b E m0 N keep c' lf' cur code F H k' = some r:=by
 intro code
 induction code with
 | skip=>intro cur F H k k' hk r h;unfold a6b at h ⊢;exact hk _ _ _ _ h
 | label l=>intro cur F H k k' hk r h;unfold a6b at h ⊢;exact hk _ _ _ _ h
 | exit id=>intro cur F H k k' hk r h;unfold a6b at h ⊢;exact hk _ _ _ _ h
 | ret=>intro cur F H k k' hk r h;unfold a6b at h ⊢;exact hk _ _ _ _ h
 | region id ops draw=>intro cur F H k k' hk r h;unfold a6b at h ⊢;exact b9r hc (fun F H r h=>hk _ _ _ _ h) _ _ _ _ h
 | seq x y ihx ihy=>
  intro cur F H k k' hk r h;unfold a6b at h ⊢
  refine ihx _ _ _ _ _ ?_ h
  intro e F H r h
  cases e with
  | normal=>exact ihy _ _ _ _ _ hk h
  | exit id=>exact hk _ _ _ _ h
  | ret=>exact hk _ _ _ _ h
 | cond x y z ihy ihz=>
  intro cur F H k k' hk r h;unfold a6b at h ⊢
  split at h
  case h_2=>cases h
  rename_i t ht
  simp only [cond_eq_ite] at h ⊢
  split at h
  ·rename_i h1;rw [if_pos h1];exact ihy _ _ _ _ _ hk h
  ·rename_i h1;rw [if_neg h1];exact ihz _ _ _ _ _ hk h
 | block id b ih=>
  intro cur F H k k' hk r h;unfold a6b at h ⊢
  refine ih _ _ _ _ _ ?_ h
  intro e F H r h
  cases e with
  | normal=>exact hk _ _ _ _ h
  | exit id'=>
   simp only [cond_eq_ite] at h ⊢
   split at h
   ·rename_i h1;rw [if_pos h1];exact hk _ _ _ _ h
   ·rename_i h1;rw [if_neg h1];exact hk _ _ _ _ h
  | ret=>exact hk _ _ _ _ h
 | loop b ih=>
  intro cur F H k k' hk r h;unfold a6b at h ⊢
  refine b4r (fun F H k k' hk r h=>ih _ F H k k' hk h) _ _ hl F H _ _ ?_ h
  intro e F H r h
  rw [cond_eq_ite] at h ⊢
  split at h
  ·rename_i h1;rw [if_pos h1];exact hk _ _ _ _ h
  ·rename_i h1;rw [if_neg h1];exact hk _ _ _ _ h
 | scope b ih=>intro cur F H k k' hk r h;unfold a6b at h ⊢;exact ih _ _ _ _ _ hk h
 | _=>intro cur F H k k' hk r h;simp [a6b] at h
theorem b4e {lf lf':Nat} (hl:lf ≤ lf') {g:FuncId} {args:List AV} {H:a06} {r:AV × a06} (h:a91 E c lf g args H = some r):a91 E c' lf' g args H = some r:=by
 unfold a91 at h ⊢
 split at h
 ·cases h
 rename_i i hi
 rw [cond_eq_ite] at h ⊢
 split at h
 case isFalse=>cases h
 rename_i h1
 rw [if_pos h1]
 exact c97 hc hl _ _ _ _ _ _ (fun _ _ _ _ h=>h) h
end
inductive Der (E:Env) (M:List Fact):FuncId → List AV → a06 → AV × a06 → Prop
 | run (g:FuncId) (args:List AV) (H:a06) (r:AV × a06) (c:CallF) (lf:Nat) (hc:∀ g a H r,c g a H = some r → Der E M g a H r)
  (hno:∀ x ∈ M,x.g ≠ g) (h:a91 E c lf g args H = some r):Der E M g args H r
 | fact (x:Fact) (hx:x ∈ M) (hfirst:∀ y ∈ M,y.g = x.g → y.args = x.args → y.v = x.v):Der E M x.g x.args [] (x.v,[])
open Classical in
noncomputable def e4l (c c':CallF):CallF:=fun g a H=>match c g a H with|some r=>some r|none=>c' g a H
theorem Der.one {E:Env} {M:List Fact} {g:FuncId} {args:List AV} {H:a06} {r r':AV × a06} (h:Der E M g args H r) (h':Der E M g args H r'):r = r':=by
 induction h generalizing r' with
 | run g args H r c lf hc hno h ih=>
  cases h' with
  | run _ _ _ _ c' lf' hc' hno' h'=>
   have l1:CallF.le c (e4l c c'):=by intro g a H r h;simp [e4l,h]
   have l2:CallF.le c' (e4l c c'):=by
    intro g a H r h
    unfold e4l
    cases hcc:c g a H with
    | none=>exact h
    | some s=>exact congrArg some (ih g a H s hcc (hc' g a H r h))
   have e1:=b4e l1 (Nat.le_max_left lf lf') h
   have e2:=b4e l2 (Nat.le_max_right lf lf') h'
   exact z9o (e1.symm.trans e2)
  | fact x hx=>exact absurd rfl (hno x hx)
 | fact x hx hf=>
  generalize hg:x.g = g at h'
  generalize ha:x.args = args at h'
  generalize hH:([]:a06) = H at h'
  cases h' with
  | run _ _ _ _ c' lf' hc' hno' h'=>exact absurd hg (hno' x hx)
  | fact y hy hf'=>rw [hf y hy hg.symm ha.symm]
theorem Der.ok {E:Env} (ok:EnvOk E) (hdr:∀ f i,E.fn f = some i → a26 i.code = true) {M:List Fact} (hM:∀ x ∈ M,a0i E x) {g:FuncId} {args:List AV} {H:a06} {r:AV × a06} (h:Der E M g args H r) :
 b75 E g (fun a H'=>open Classical in if a = args ∧ H' = H then some r else none):=by
 induction h with
 | run g args H r c lf hc hno h ih=>
  have hcall:a3c E c:=by
   intro g a H v H' hr
   have:=ih g a H (v,H') hr
   exact this a H v H' (by simp)
  intro a H' v H'' hr
  dsimp only at hr
  split at hr
  ·rename_i hh
   obtain ⟨rfl,rfl⟩:=hh
   cases hr
   exact b5s ok hdr hcall lf g a H' v H'' h
  ·cases hr
 | fact x hx hf=>
  intro a H' v H'' hr
  dsimp only at hr
  split at hr
  ·rename_i hh
   obtain ⟨rfl,rfl⟩:=hh
   cases hr
   intro I K ρ w cargs h1 h2 h3
   exact hM x hx I K ρ w cargs h1 h2 h3
  ·cases hr
open Classical in
noncomputable def sem (E:Env) (M:List Fact):CallF:=fun g args H=>if h:∃ r,Der E M g args H r then some h.choose else none
section
variable {E:Env} {M:List Fact}
theorem b0g {g:FuncId} {args:List AV} {H:a06} {r:AV × a06}:sem E M g args H = some r ↔ Der E M g args H r:=by
 unfold sem
 constructor
 ·intro h
  split at h
  ·rename_i hh;cases h;exact hh.choose_spec
  ·cases h
 ·intro h
  have hh:∃ r,Der E M g args H r:=⟨r,h⟩
  rw [dif_pos hh]
  exact congrArg some (Der.one hh.choose_spec h)
theorem d5j {g:FuncId} {args:List AV} {H:a06} {r:AV × a06} (hno:∀ x ∈ M,x.g ≠ g) (lf:Nat) (h:a91 E (sem E M) lf g args H = some r):sem E M g args H = some r:=
 b0g.2 (.run g args H r (sem E M) lf (fun _ _ _ _ h=>b0g.1 h) hno h)
theorem sem_ok (ok:EnvOk E) (hdr:∀ f i,E.fn f = some i → a26 i.code = true) (hM:∀ x ∈ M,a0i E x):a3c E (sem E M):=by
 intro g args H v H' h
 exact (Der.ok ok hdr hM (b0g.1 h)) args H v H' (by simp)
end
end Go.Ax
/- AxEv: runs of statements in direct style: what a statement comes to, for a3q loop fuel that is great enough. -/
namespace Go.Ax
def c6e {α β:Type} (x:Option α) (f:α → β) (d:β):β:=match x with|some a=>f a|none=>d
def a0j {α β:Type} (x:Option α) (f:α → Option β):Option β:=match x with|some a=>f a|none=>none
@[go_sem] theorem d9d {α β:Type} (a:α) (f:α → Option β):a0j (some a) f = f a:=by rfl
@[congr] theorem d6f {α β:Type} {x y:Option α} {f:α → Option β} (h:x = y):a0j x f = a0j y f:=by rw [h]
def a8q (E:Env) (draw:Bool) (N:Nat) (call:CallF) (all:List Oper):List Oper → List LogE → Frm → a06 → Option (Frm × a06 × List LogE)
 | [],log,F,H=>some (F,H,log)
 | o :: rest,log,F,H=>
  bif a6v N o.dst then
   match o.guard with
   | none=>a0j (a0z E draw call F H o.op) fun x=>a8q E draw N call all rest (x.2.2 :: log) (a3h F o.dst x.1) x.2.1
   | some (j,want)=>match a2o all j with
    | none=>none
    | some d=>match a25 F d with
     | .bool b=>bif b then
      (bif want then a0j (a0z E draw call (a3h F (some d) (.bool true)) H o.op) fun x=>a8q E draw N call all rest (x.2.2 :: log) (a3h (a3h F (some d) (.bool true)) o.dst x.1) x.2.1
      else a8q E draw N call all rest (⟨[],[]⟩ :: log) (a3h (a3h F (some d) (.bool true)) o.dst (.tuple [])) H)
      else
       (bif want then a8q E draw N call all rest (⟨[],[]⟩ :: log) (a3h (a3h F (some d) (.bool false)) o.dst (.tuple [])) H
       else a0j (a0z E draw call (a3h F (some d) (.bool false)) H o.op) fun x=>a8q E draw N call all rest (x.2.2 :: log) (a3h (a3h F (some d) (.bool false)) o.dst x.1) x.2.1)
     | .tuple []=>a8q E draw N call all rest (⟨[],[]⟩ :: log) (a3h F o.dst (.tuple [])) H
     | _=>none
  else none
theorem b9q {E:Env} {draw:Bool} {N:Nat} {call:CallF} {all:List Oper} {R:Type} {k:Frm → a06 → Option R}:∀ (ops:List Oper) (log:List LogE) (F:Frm) (H:a06),
 a2d E draw N call all ops log F H k = (match a8q E draw N call all ops log F H with|some (F',H',log')=>(bif !draw || logOk all log'.length log' then k F' H' else none)|none=>none):=by
 intro ops
 induction ops with
 | nil=>
  intro log F H
  rfl
 | cons o rest ih=>
  intro log F H
  have step:∀ (F1 F2:Frm),(match a0z E draw call F1 H o.op with
   | some (v,H',l)=>a2d E draw N call all rest (l :: log) (a3h F2 o.dst v) H' k
   | none=>none) = (match a0j (a0z E draw call F1 H o.op) fun x=>a8q E draw N call all rest (x.2.2 :: log) (a3h F2 o.dst x.1) x.2.1 with|some (F',H',log')=>(bif !draw || logOk all log'.length log' then k F' H' else none)|none=>none):=by
   intro F1 F2
   cases a0z E draw call F1 H o.op with
   | none=>rfl
   | some x=>exact ih _ _ _
  obtain ⟨dst,op,ty,pos,after,guard⟩:=o
  unfold a2d a8q
  cases hd:a6v N dst with
  | false=>rfl
  | true=>
   cases guard with
   | none=>exact step F F
   | some g=>
    obtain ⟨j,want⟩:=g
    simp only [cond_true]
    cases hs:a2o all j with
    | none=>rfl
    | some d=>
     simp only
     cases hv:a25 F d with
     | bool b=>cases b<;>cases want<;>simp only [cond_true,cond_false]<;>first|exact step _ _|exact ih _ _ _
     | tuple vs=>cases vs with
      | nil=>exact ih _ _ _
      | cons a r=>rfl
     | _=>rfl
structure Cx where
 E:Env
 M:List Fact
 m0:Nat
 N:Nat
 keep:Nat → List Nat
 cur:Nat
def Ev (x:Cx) (c:Code) (F:Frm) (H:a06) (r:AExit × Frm × a06):Prop:=
 ∃ n0,∀ lf,n0 ≤ lf → ∀ k:AExit → Frm → a06 → Option (AV × a06),a6b x.E x.m0 x.N x.keep (sem x.E x.M) lf x.cur c F H k = k r.1 r.2.1 r.2.2
section
variable {x:Cx} {F F1:Frm} {H H1:a06} {r:AExit × Frm × a06}
theorem Ev.skip:Ev x .skip F H (.normal,F,H):=⟨0,fun _ _ _=>rfl⟩
theorem Ev.label {l}:Ev x (.label l) F H (.normal,F,H):=⟨0,fun _ _ _=>rfl⟩
theorem Ev.leave {id}:Ev x (.exit id) F H (.exit id,F,H):=⟨0,fun _ _ _=>rfl⟩
theorem Ev.ret:Ev x .ret F H (.ret,F,H):=⟨0,fun _ _ _=>rfl⟩
theorem Ev.region {id ops draw} {log:List LogE} (h:a8q x.E draw x.N (sem x.E x.M) ops.toList ops.toList [] F H = some (F1,H1,log)) (hl:(!draw || logOk ops.toList log.length log) = true):Ev x (.region id ops draw) F H (.normal,F1,H1):=
 ⟨0,fun _ _ k=>by simp only [a6b,b9q,h,hl,cond_true]⟩
theorem Ev.seq {a b} (h:Ev x a F H (.normal,F1,H1)) (h2:Ev x b F1 H1 r):Ev x (.seq a b) F H r:=by
 obtain ⟨n,h⟩:=h;obtain ⟨m,h2⟩:=h2
 exact ⟨max n m,fun lf hl k=>by simp only [a6b];rw [h lf (by omega)];exact h2 lf (by omega) k⟩
theorem Ev.seq_ret {a b} (h:Ev x a F H (.ret,F1,H1)):Ev x (.seq a b) F H (.ret,F1,H1):=by
 obtain ⟨n,h⟩:=h
 exact ⟨n,fun lf hl k=>by simp only [a6b];rw [h lf hl]⟩
theorem Ev.seq_exit {a b id} (h:Ev x a F H (.exit id,F1,H1)):Ev x (.seq a b) F H (.exit id,F1,H1):=by
 obtain ⟨n,h⟩:=h
 exact ⟨n,fun lf hl k=>by simp only [a6b];rw [h lf hl]⟩
theorem Ev.cond_t {c a b} (hc:opv x.E F c = .bool true) (h:Ev x a F H r):Ev x (.cond c a b) F H r:=by
 obtain ⟨n,h⟩:=h
 exact ⟨n,fun lf hl k=>by simp only [a6b,hc,cond_true];exact h lf hl k⟩
theorem Ev.cond_f {c a b} (hc:opv x.E F c = .bool false) (h:Ev x b F H r):Ev x (.cond c a b) F H r:=by
 obtain ⟨n,h⟩:=h
 exact ⟨n,fun lf hl k=>by simp only [a6b,hc,cond_false];exact h lf hl k⟩
theorem Ev.block {id b} (h:Ev { x with cur:=id } b F H (.normal,F1,H1)):Ev x (.block id b) F H (.normal,F1,H1):=by
 obtain ⟨n,h⟩:=h
 exact ⟨n,fun lf hl k=>by simp only [a6b];rw [h lf hl]⟩
theorem Ev.block_ret {id b} (h:Ev { x with cur:=id } b F H (.ret,F1,H1)):Ev x (.block id b) F H (.ret,F1,H1):=by
 obtain ⟨n,h⟩:=h
 exact ⟨n,fun lf hl k=>by simp only [a6b];rw [h lf hl]⟩
theorem Ev.block_exit {id b} (h:Ev { x with cur:=id } b F H (.exit id,F1,H1)):Ev x (.block id b) F H (.normal,F1,H1):=by
 obtain ⟨n,h⟩:=h
 exact ⟨n,fun lf hl k=>by simp only [a6b];rw [h lf hl];simp⟩
theorem Ev.block_on {id id' b} (h:Ev { x with cur:=id } b F H (.exit id',F1,H1)) (hne:(id' == id) = false):Ev x (.block id b) F H (.exit id',F1,H1):=by
 obtain ⟨n,h⟩:=h
 exact ⟨n,fun lf hl k=>by simp only [a6b];rw [h lf hl];simp only [hne,cond_false]⟩
theorem Ev.scope {b} (h:Ev x b F H r):Ev x (.scope b) F H r:=by
 obtain ⟨n,h⟩:=h
 exact ⟨n,fun lf hl k=>by simp only [a6b];exact h lf hl k⟩
def gcD (m0:Nat) (keep:List Nat) (F:Frm) (H:a06):Option (Frm × a06):=
 let F1:=a1j keep F
 let σ:=b0r m0 F1 H
 bif a51 σ && σ.all (fun b=>Nat.ble m0 b) && Nat.ble m0 H.length then some (b9d (b6d m0 σ) F1,gcH m0 σ H) else none
def EvL (x:Cx) (b:Code) (F:Frm) (H:a06) (r:AExit × Frm × a06):Prop:=
 ∃ n0,∀ lf,n0 ≤ lf → ∀ n,n0 ≤ n → ∀ k:AExit → Frm → a06 → Option (AV × a06),
  b1e x.m0 (x.keep x.cur) (fun F H k=>a6b x.E x.m0 x.N x.keep (sem x.E x.M) lf x.cur b F H k) n F H k = k r.1 r.2.1 r.2.2
theorem Ev.loop {b} (hz:c9i (x.keep x.cur) = false) (h:EvL x b F H r):Ev x (.loop b) F H r:=by
 obtain ⟨n,h⟩:=h
 exact ⟨n,fun lf hl k=>by simp only [a6b,hz,cond_false];exact h lf hl lf hl k⟩
theorem Ev.loopZ {b} {e:AExit} (hz:c9i (x.keep x.cur) = true) (h:EvL x b F H (e,F1,H1)):Ev x (.loop b) F H (e,c0d x.m0 H1 F1,c0c x.m0 H1):=by
 obtain ⟨n,h⟩:=h
 exact ⟨n,fun lf hl k=>by simp only [a6b,hz,cond_true];exact h lf hl lf hl _⟩
theorem c7j {m0:Nat} {keep:List Nat} (hg:gcD m0 keep F H = some (F1,H1)) :
 (a51 (b0r m0 (a1j keep F) H) && (b0r m0 (a1j keep F) H).all (fun b=>Nat.ble m0 b) && Nat.ble m0 H.length) = true ∧ b9d (b6d m0 (b0r m0 (a1j keep F) H)) (a1j keep F) = F1 ∧ gcH m0 (b0r m0 (a1j keep F) H) H = H1:=by
 unfold gcD at hg
 simp only [cond_eq_ite] at hg
 split at hg
 case isFalse=>cases hg
 rename_i hc
 cases hg
 exact ⟨hc,rfl,rfl⟩
theorem EvL.leave {b:Code} {F2:Frm} {H2:a06} {e:AExit} (hg:gcD x.m0 (x.keep x.cur) F H = some (F1,H1)) (h:Ev x b F1 H1 (e,F2,H2)) (he:e ≠ .normal):EvL x b F H (e,F2,H2):=by
 obtain ⟨n0,h⟩:=h
 refine ⟨n0 + 1,fun lf hl n hn k=>?_⟩
 obtain ⟨n,rfl⟩:∃ l,n = l + 1:=⟨n - 1,by omega⟩
 obtain ⟨h1,h2,h3⟩:=c7j hg
 simp only [b1e,h1,h2,h3,cond_true]
 rw [h lf (by omega)]
 cases e with
 | normal=>exact absurd rfl he
 | exit id=>rfl
 | ret=>rfl
theorem EvL.again {b:Code} {F2:Frm} {H2:a06} (hg:gcD x.m0 (x.keep x.cur) F H = some (F1,H1)) (h:Ev x b F1 H1 (.normal,F2,H2)) (h':EvL x b F2 H2 r):EvL x b F H r:=by
 obtain ⟨n0,h⟩:=h
 obtain ⟨m0,h'⟩:=h'
 refine ⟨max n0 m0 + 1,fun lf hl n hn k=>?_⟩
 obtain ⟨n,rfl⟩:∃ l,n = l + 1:=⟨n - 1,by omega⟩
 obtain ⟨h1,h2,h3⟩:=c7j hg
 simp only [b1e,h1,h2,h3,cond_true]
 rw [h lf (by omega)]
 exact h' lf (by omega) n (by omega) k
theorem c14 {E:Env} {M:List Fact} {g:FuncId} {args:List AV} {H:a06} {code:Code} {N:Nat} {results:List ResultVar} {e:AExit} {F':Frm} {H':a06} {vs:List AV} {v:AV} {H2:a06}
 (hfn:E.fn g = some ⟨code,N,results⟩) (hno:∀ y ∈ M,y.g ≠ g) (hN:Nat.ble args.length N = true) (h:Ev ⟨E,M,H.length,N,E.keep g,0⟩ code (a3n 0 args) H (e,F',H')) (he:∀ id,e ≠ .exit id)
 (hr:a1b E F' H' results = some vs) (hfin:a2a (E.thaw g) H.length (a45 vs) H' = some (v,H2)):sem E M g args H = some (v,H2):=by
 obtain ⟨n,h⟩:=h
 refine d5j hno n ?_
 unfold a91
 rw [hfn]
 simp only
 rw [hN]
 simp only [cond_true]
 refine (h n (Nat.le_refl _) _).trans ?_
 cases e with
 | exit id=>exact absurd rfl (he id)
 | normal=>simp only [hr];exact hfin
 | ret=>simp only [hr];exact hfin
end
end Go.Ax
/- AxSimp: the evaluator's steps as rewrite rules. -/
namespace Go.Ax
section
variable {E:Env} {draw:Bool} {N:Nat} {call:CallF} {all rest:List Oper} {log:List LogE} {F:Frm} {H:a06}
@[go_sem] theorem e4a (s:Nat) (v:AV) (r:Frm):a25 ((s,v) :: r) s = v:=by
 simp only [a25,c1m,cond_eq_ite,beq_self_eq_true,if_true]
@[go_sem] theorem e1v {s t:Nat} (h:(s = t) = False) (v:AV) (r:Frm):a25 ((s,v) :: r) t = a25 r t:=by
 have:¬ s = t:=fun e=>h ▸ e
 simp only [a25,c1m,cond_eq_ite,beq_iff_eq,if_neg this]
@[go_sem] theorem e0l (d:Nat) (v:AV):a3h F (some d) v = (d,v) :: F:=by rfl
@[go_sem] theorem e0m (v:AV):a3h F none v = F:=by rfl
@[go_sem] theorem e66 (t:Nat):opv E F (.tmp t) = a25 F t:=by rfl
@[go_sem] theorem e3y (f:Nat):opv E F (.func f) = .func (.func f) [] []:=by rfl
@[go_sem] theorem e3z (b:Bool):opv E F (.const (.bool b)) = .bool b:=by rfl
@[go_sem] theorem e68 (k:IntKind) (n:Int):opv E F (.const (.int k n)) = .int k n:=by rfl
@[go_sem] theorem d42:opv E F (.const (.slice none 0 0)) = .nilslice:=by rfl
@[go_sem] theorem d6d:opv E F (.const .nilFunc) = .nilfunc:=by rfl
@[go_sem] theorem e67 (s:ByteArray):opv E F (.const (.string s)) = .str s.data.toList:=by rfl
@[go_sem] theorem e3i:a8q E draw N call all [] log F H = some (F,H,log):=by rfl
@[go_sem] theorem d9o (d:Nat):a6v N (some d) = decide (d < N):=by
 rw [a6v,Bool.eq_iff_iff];simp [Nat.blt_eq]
@[go_sem] theorem d9p:a6v N none = true:=by rfl
theorem d5w (dst:Option Nat) (op:Op) (ty:TypeId) (pos:String) (after:Array Edge) :
 a8q E draw N call all ({ dst:=dst,op:=op,type:=ty,pos:=pos,after:=after,guard:=none } :: rest) log F H =
  bif a6v N dst then a0j (a0z E draw call F H op) fun x=>a8q E draw N call all rest (x.2.2 :: log) (a3h F dst x.1) x.2.1 else none:=by
 rfl
def d0e (E:Env) (draw:Bool) (N:Nat) (call:CallF) (all:List Oper) (dst:Option Nat) (op:Op) (rest:List Oper) (log:List LogE) (F:Frm) (H:a06) (d:Nat) (want:Bool):AV → Option (Frm × a06 × List LogE)
 | .bool b=>bif b then
  (bif want then a0j (a0z E draw call (a3h F (some d) (.bool true)) H op) fun x=>a8q E draw N call all rest (x.2.2 :: log) (a3h (a3h F (some d) (.bool true)) dst x.1) x.2.1
  else a8q E draw N call all rest (⟨[],[]⟩ :: log) (a3h (a3h F (some d) (.bool true)) dst (.tuple [])) H)
  else
   (bif want then a8q E draw N call all rest (⟨[],[]⟩ :: log) (a3h (a3h F (some d) (.bool false)) dst (.tuple [])) H
   else a0j (a0z E draw call (a3h F (some d) (.bool false)) H op) fun x=>a8q E draw N call all rest (x.2.2 :: log) (a3h (a3h F (some d) (.bool false)) dst x.1) x.2.1)
 | .tuple []=>a8q E draw N call all rest (⟨[],[]⟩ :: log) (a3h F dst (.tuple [])) H
 | _=>none
theorem c33 (dst:Option Nat) (op:Op) (ty:TypeId) (pos:String) (after:Array Edge) (j:Nat) (want:Bool) :
 a8q E draw N call all ({ dst:=dst,op:=op,type:=ty,pos:=pos,after:=after,guard:=some (j,want) } :: rest) log F H =
  bif a6v N dst then a0j (a2o all j) fun d=>d0e E draw N call all dst op rest log F H d want (a25 F d) else none:=by
 unfold a8q
 cases a6v N dst with
 | false=>rfl
 | true=>
  simp only [cond_true]
  cases a2o all j with
  | none=>rfl
  | some d=>
   simp only [a0j]
   unfold d0e
   rfl
section
variable {dst:Option Nat} {op:Op} {d:Nat}
theorem d5s:d0e E draw N call all dst op rest log F H d true (.bool true) = a0j (a0z E draw call ((d,.bool true) :: F) H op) fun x=>a8q E draw N call all rest (x.2.2 :: log) (a3h ((d,.bool true) :: F) dst x.1) x.2.1:=by rfl
theorem d5t:d0e E draw N call all dst op rest log F H d true (.bool false) = a8q E draw N call all rest (⟨[],[]⟩ :: log) (a3h ((d,.bool false) :: F) dst (.tuple [])) H:=by rfl
theorem d5u:d0e E draw N call all dst op rest log F H d false (.bool true) = a8q E draw N call all rest (⟨[],[]⟩ :: log) (a3h ((d,.bool true) :: F) dst (.tuple [])) H:=by rfl
theorem d5v:d0e E draw N call all dst op rest log F H d false (.bool false) = a0j (a0z E draw call ((d,.bool false) :: F) H op) fun x=>a8q E draw N call all rest (x.2.2 :: log) (a3h ((d,.bool false) :: F) dst x.1) x.2.1:=by rfl
theorem d5r {want:Bool}:d0e E draw N call all dst op rest log F H d want (.tuple []) = a8q E draw N call all rest (⟨[],[]⟩ :: log) (a3h F dst (.tuple [])) H:=by cases want<;>rfl
end
attribute [go_sem] d5w c33 d5s d5t d5u d5v d5r
@[congr] theorem d99 {dst:Option Nat} {op:Op} {d:Nat} {want:Bool} {v v':AV} (h:v = v'):d0e E draw N call all dst op rest log F H d want v = d0e E draw N call all dst op rest log F H d want v':=by rw [h]
/-! ### one operation -/
@[go_sem] theorem e5g (x:Operand):a0z E draw call F H (.move x) = some (opv E F x,H,⟨[],[]⟩):=by rfl
@[go_sem] theorem e0h (x:Operand):a0z E draw call F H (.assign x) = some (opv E F x,H,⟨[],[]⟩):=by rfl
theorem a1z {op:Op} {v:Option AV} (h:aop E H.length (a04 H) op (opv E F) = v.map (·,.none)) (hs:a0z E draw call F H op = match aop E H.length (a04 H) op (opv E F) with
 | some (v,e)=>bif e.fits H.length then some (v,b01 H e,⟨a7k op (opv E F),e.keys H.length⟩) else none
 | none=>none):a0z E draw call F H op = a0j v fun v=>some (v,H,⟨a7k op (opv E F),[]⟩):=by
 rw [hs,h];cases v<;>rfl
@[go_sem] theorem e8d (op:BinOp) (t:TypeId) (x y:Operand) (z):a0z E draw call F H (.binOp op t x y z) = a0j (a4v E op t (opv E F x) (opv E F y) (a41 x || a41 y)) fun v=>some (v,H,⟨[],[]⟩):=a1z rfl rfl
@[go_sem] theorem f0u (op:UnOp) (t:TypeId) (x:Operand):a0z E draw call F H (.unOp op t x) = a0j (aun op (opv E F x)) fun v=>some (v,H,⟨[],[]⟩):=a1z rfl rfl
@[go_sem] theorem e5j (s d:TypeId) (x:Operand):a0z E draw call F H (.convert s d x) = a0j (a5t E (a04 H) s d (opv E F x)) fun v=>some (v,H,⟨a0u (opv E F x),[]⟩):=a1z rfl rfl
@[go_sem] theorem e5h (t:TypeId) (x:Operand):a0z E draw call F H (.load t x) = a0j (a7g E (a04 H) t (opv E F x)) fun v=>some (v,H,⟨a0u (opv E F x),[]⟩):=a1z rfl rfl
@[go_sem] theorem e3b (t:TypeId) (x:Operand) (lo hi mx:Option Operand):a0z E draw call F H (.slice t x lo hi mx) = a0j (a3g E (a04 H) t (opv E F x) (lo.map (opv E F)) (hi.map (opv E F)) (mx.map (opv E F))) fun v=>some (v,H,⟨a0u (opv E F x),[]⟩):=a1z rfl rfl
@[go_sem] theorem d3x (t:TypeId) (x:Operand) (f:Nat):a0z E draw call F H (.fieldAddr t x f) = a0j (a5e E t (opv E F x) f) fun v=>some (v,H,⟨[],[]⟩):=a1z rfl rfl
@[go_sem] theorem d3w (t:TypeId) (x i:Operand):a0z E draw call F H (.indexAddr t x i) = a0j (a16 E (a04 H) t (opv E F x) (opv E F i)) fun v=>some (v,H,⟨a0u (opv E F x),[]⟩):=a1z rfl rfl
@[go_sem] theorem e3d (t:TypeId) (ps:Array (Nat × Operand)):a0z E draw call F H (.build t ps) = a0j (b5j E t (ps.toList.map fun p=>(p.1,opv E F p.2))) fun v=>some (v,H,⟨[],[]⟩):=a1z rfl rfl
@[go_sem] theorem e0g (t:TypeId) (x k:Operand) (o:Bool):a0z E draw call F H (.lookup t x k o) = a0j (a7f E (a04 H) t (opv E F x) (opv E F k) o) fun v=>some (v,H,⟨a0u (opv E F x),[]⟩):=a1z rfl rfl
@[go_sem] theorem d5c (fn:Fn) (first cap:Array Operand):a0z E draw call F H (.makeFunc fn first cap) = some (.func fn (first.toList.map (opv E F)) (cap.toList.map (opv E F)),H,⟨[],[]⟩):=by rfl
def b95 (c a b:AV):Option AV:=match c with|.bool t=>some (b44 t a b)|_=>none
@[go_sem] theorem e5f (c a b:Operand):a0z E draw call F H (.pick c a b) = a0j (b95 (opv E F c) (opv E F a) (opv E F b)) fun v=>some (v,H,⟨[],[]⟩):=by
 refine a1z ?_ rfl
 simp only [aop,b95]
 cases opv E F c<;>rfl
@[go_sem] theorem d8i (t a b:Bool):b95 (.bool t) (.bool a) (.bool b) = some (.bool (bif t then a else b)):=by rfl
@[go_sem] theorem d8h (a b:AV):b95 (.bool true) a b = some (b44 true a b):=by rfl
@[go_sem] theorem d4k (a b:AV):b95 (.bool false) a b = some (b44 false a b):=by rfl
theorem d8f (a b:AV):b44 true a b = a:=by unfold b44;split<;>simp
theorem d8g (a b:AV):b44 false a b = b:=by unfold b44;split<;>simp
attribute [go_sem] d8f d8g
def b96 (x:AV):Option AV:=match x with
 | .ptr b i o=>some (.ptr b i o)
 | .iptr cs=>some (.iptr cs)
 | .func (.func f) fs cs=>some (.func (.func f) fs cs)
 | _=>none
attribute [go_sem] b96
@[go_sem] theorem d5b (x:Operand):a0z E draw call F H (.nilCheck x) = a0j (b96 (opv E F x)) fun v=>some (v,H,⟨[],[]⟩):=by
 refine a1z ?_ rfl
 simp only [aop]
 generalize opv E F x = y
 cases y<;>try rfl
 rename_i fn _ _
 cases fn<;>rfl
def b73 (x:AV) (i:Nat):Option AV:=match x with|.tuple vs=>vs[i]?|_=>none
attribute [go_sem] b73
@[go_sem] theorem d96 (t:Operand) (i:Nat):a0z E draw call F H (.extract t i) = a0j (b73 (opv E F t) i) fun v=>some (v,H,⟨[],[]⟩):=by
 refine a1z ?_ rfl
 simp only [aop,b73]
 cases opv E F t with
 | tuple vs=>simp only;cases vs[i]?<;>rfl
 | _=>rfl
theorem a52 {op:Op} {v:Option (AV × Eff)} (h:aop E H.length (a04 H) op (opv E F) = v) (hs:a0z E draw call F H op = match aop E H.length (a04 H) op (opv E F) with
 | some (v,e)=>bif e.fits H.length then some (v,b01 H e,⟨a7k op (opv E F),e.keys H.length⟩) else none
 | none=>none) {n:List Nat} (hn:a7k op (opv E F) = n):a0z E draw call F H op = a0j v fun x=>bif x.2.fits H.length then some (x.1,b01 H x.2,⟨n,x.2.keys H.length⟩) else none:=by
 rw [hs,h];subst hn;cases v<;>rfl
@[go_sem] theorem e3e (t:TypeId):a0z E draw call F H (.alloc t) = a0j (d8k E H.length t) fun x=>bif x.2.fits H.length then some (x.1,b01 H x.2,⟨[],x.2.keys H.length⟩) else none:=a52 rfl rfl rfl
@[go_sem] theorem e8c (t:TypeId) (x:Operand):a0z E draw call F H (.box t x) = a0j (d8v H.length (opv E F x)) fun x=>bif x.2.fits H.length then some (x.1,b01 H x.2,⟨[],x.2.keys H.length⟩) else none:=a52 rfl rfl rfl
@[go_sem] theorem e3a (t:TypeId) (a x:Operand):a0z E draw call F H (.store t a x) = a0j (a7j E (a04 H) t (opv E F a) (opv E F x)) fun e=>bif e.fits H.length then some (.tuple [],b01 H e,⟨a0u (opv E F a),e.keys H.length⟩) else none:=by
 refine (a52 (v:=(a7j E (a04 H) t (opv E F a) (opv E F x)).map (.tuple [],·)) rfl rfl rfl).trans ?_
 cases a7j E (a04 H) t (opv E F a) (opv E F x)<;>rfl
@[go_sem] theorem d07 (t:TypeId) (n:Nat) (ps:Array (Nat × Operand)):a0z E draw call F H (.buildSlice t n ps) = a0j (a34 E H.length t n (ps.toList.map fun p=>(p.1,opv E F p.2))) fun x=>bif x.2.fits H.length then some (x.1,b01 H x.2,⟨[],x.2.keys H.length⟩) else none:=a52 rfl rfl rfl
@[go_sem] theorem d3v (t:TypeId) (l c:Operand):a0z E draw call F H (.makeSlice t l c) = a0j (a3p E H.length t (opv E F l) (opv E F c)) fun x=>bif x.2.fits H.length then some (x.1,b01 H x.2,⟨[],x.2.keys H.length⟩) else none:=a52 rfl rfl rfl
@[go_sem] theorem d95 (t:TypeId):a0z E draw call F H (.makeMap t none) = some (.map H.length,H ++ [some (.map [] [] [] 0)],⟨[],[H.length]⟩):=by rfl
@[go_sem] theorem d3u (t:TypeId) (m k x:Operand):a0z E draw call F H (.mapUpdate t m k x) = a0j (a2h E (a04 H) t (opv E F m) (opv E F k) (opv E F x)) fun e=>bif e.fits H.length then some (.tuple [],b01 H e,⟨a0u (opv E F m),e.keys H.length⟩) else none:=by
 refine (a52 (v:=(a2h E (a04 H) t (opv E F m) (opv E F k) (opv E F x)).map (.tuple [],·)) rfl rfl rfl).trans ?_
 cases a2h E (a04 H) t (opv E F m) (opv E F k) (opv E F x)<;>rfl
@[go_sem] theorem e8b (x:Operand) (t:TypeId):a0z E draw call F H (.call { callee:=.builtin .len,args:=#[x],argTypes:=#[t] }) = a0j (b9f E (a04 H) t (opv E F x)) fun v=>some (v,H,⟨a0u (opv E F x),[]⟩):=by
 refine (a1z (v:=b9f E (a04 H) t (opv E F x)) rfl rfl).trans ?_
 simp [a7k]
@[go_sem] theorem e89 (x:Operand) (xs:List Operand) (ts:Array TypeId):a0z E draw call F H (.call { callee:=.builtin .min,args:=⟨x :: xs⟩,argTypes:=ts }) = a0j (d8m (opv E F x) (xs.map (opv E F))) fun v=>some (v,H,⟨(x :: xs).flatMap fun x=>a0u (opv E F x),[]⟩):=
 a1z rfl rfl
@[go_sem] theorem e8a (x:Operand) (xs:List Operand) (ts:Array TypeId):a0z E draw call F H (.call { callee:=.builtin .max,args:=⟨x :: xs⟩,argTypes:=ts }) = a0j (d33 (opv E F x) (xs.map (opv E F))) fun v=>some (v,H,⟨(x :: xs).flatMap fun x=>a0u (opv E F x),[]⟩):=
 a1z rfl rfl
@[go_sem] theorem e0i (x y:Operand) (t u:TypeId):a0z E draw call F H (.call { callee:=.builtin .append,args:=#[x,y],argTypes:=#[t,u] }) = a0j (a4z E (a04 H) H.length t u (opv E F x) (opv E F y)) fun z=>bif z.2.fits H.length then some (z.1,b01 H z.2,⟨a0u (opv E F x) ++ a0u (opv E F y),z.2.keys H.length⟩) else none:=
 a52 rfl rfl (by simp [a7k])
@[go_sem] theorem d5y {g:FuncId} {fs cs:List AV} {H H':a06} {σ:List Nat}:a9j E (.func (.func g) fs cs) H H' σ = (E.ro g && σ.all fun b=>b7j (a04 H b) (a04 H' b)):=by rfl
@[go_sem] theorem e2j {α:Type} (b:Bool) (x:α):(bif b then x else x) = x:=by cases b<;>rfl
@[go_sem] theorem d9f (ro:Bool) (σ:List Nat) (n:Nat):b87 ro σ n n = bif ro then [] else σ:=by
 unfold b87;rw [cond_eq_ite,if_pos (by rw [Nat.beq_eq])]
@[go_sem] theorem e5k (f:Operand) (args:Array Operand) (ts:Array TypeId):a0z E draw call F H (.call { callee:=.value f,args:=args,argTypes:=ts }) = a0j (a0e E draw call (opv E F f) (args.toList.map (opv E F)) H) fun x=>some (x.1,x.2.1,⟨x.2.2,b87 (a9j E (opv E F f) H x.2.1 x.2.2) x.2.2 H.length x.2.1.length⟩):=by
 simp only [a0z]
 cases a0e E draw call (opv E F f) (args.toList.map (opv E F)) H<;>rfl
end
/-! ### tables read by type -/
section
variable (E:Env)
def a6y (t:TypeId):Option Bool:=(E.und t).map a28
def a5d (t:TypeId) (f:Nat):Option (Nat × TypeId):=match E.und t with|some (.struct fs)=>(fs[f]?).map fun d=>(d.offset,d.type)|_=>none
def d2s (t:TypeId):Bool:=match E.und t with
 | some (.struct fs)=>fs.toList.all (fun f=>(E.und f.type).isSome)
 | some (.array _ e)=>(E.und e).isSome
 | _=>false
def b3y (t:TypeId) (i:Nat):Option (Nat × Nat):=match E.und t with
 | some (.struct fs)=>(fs[i]?).map fun f=>(f.offset,E.sz f.type)
 | some (.array _ e)=>some (i * E.sz e,E.sz e)
 | _=>none
def isT (t:TypeId):Bool:=(E.und t).isSome
end
section
variable {E:Env} {h:FHeap}
def d69:Option Bool → List AV → Option AV
 | some true,cs=>some (.agg cs)
 | some false,cs=>cs.head?
 | none,_=>none
attribute [go_sem] d69 List.head?_cons
@[go_sem] theorem e1a (t:TypeId) (cs:List AV):a2e E t cs = bif decide (cs.length = E.sz t) then d69 (a6y E t) cs else none:=by
 unfold a2e a6y
 have e:(cs.length == E.sz t) = decide (cs.length = E.sz t):=by by_cases h:cs.length = E.sz t<;>simp [h]
 rw [e]
 cases E.und t with
 | none=>cases decide (cs.length = E.sz t)<;>rfl
 | some d=>cases decide (cs.length = E.sz t)<;>simp [d69]<;>cases a28 d<;>rfl
def fieldAt (E:Env) (p:AV) (o:Nat) (t:TypeId):Option AV:=
 bif decide (E.sz t ≠ 0) && isT E t then match p with
  | .ptr b i q=>some (.ptr b i (q + o))
  | .iptr cs=>some (.iptr (cs.drop o))
  | _=>none
 else none
attribute [go_sem] fieldAt
@[go_sem] theorem d4o (t:TypeId) (p:AV) (f:Nat):a5e E t p f = a0j (a5d E t f) fun x=>fieldAt E p x.1 x.2:=by
 unfold a5e a5d fieldAt isT
 cases E.und t with
 | none=>rfl
 | some d=>
  cases d<;>try rfl
  rename_i fs
  simp only
  cases fs[f]? with
  | none=>rfl
  | some fd=>
   by_cases h:E.sz fd.type = 0
   ·simp [h,a0j]
   ·have e:(E.sz fd.type == 0) = false:=beq_eq_false_iff_ne.2 h
    simp [h,e,a0j]
    rfl
@[go_sem] theorem e4t (t:TypeId) (parts:List (Nat × AV)):b5j E t parts = bif d2s E t then a0j (E.zero t) fun z=>a0j (b10 (b3y E t) z parts) fun cs=>some (.agg cs) else none:=by
 unfold b5j d2s b3y
 cases hz:E.zero t with
 | none=>
  simp only [a0j]
  cases E.und t with
  | none=>rfl
  | some d=>cases d<;>simp
 | some z=>
  cases hu:E.und t with
  | none=>rfl
  | some d=>
   cases d<;>try rfl
   ·simp only [a0j]
    split<;>simp_all<;>split<;>simp_all<;>rfl
   ·simp only [a0j]
    split<;>simp_all<;>split<;>simp_all<;>rfl
end
/-! ### values -/
section
variable {E:Env} {h:FHeap} {t:TypeId} {k:IntKind} {a b:Int} {p q:Bool} {c:Bool}
theorem ikb (k:IntKind):(k == k) = true:=by cases k<;>rfl
@[go_sem] theorem d3k:a4v E .add t (.int k a) (.int k b) c = some (.int k (k.wrap (a + b))):=by simp only [a4v,ikb,b7b,cond_true]
@[go_sem] theorem d3d:a4v E .sub t (.int k a) (.int k b) c = some (.int k (k.wrap (a - b))):=by simp only [a4v,ikb,b7b,cond_true]
@[go_sem] theorem d3g:a4v E .mul t (.int k a) (.int k b) c = some (.int k (k.wrap (a * b))):=by simp only [a4v,ikb,b7b,cond_true]
@[go_sem] theorem e4v (hb:(b = 0) = False):a4v E .quo t (.int k a) (.int k b) c = some (.int k (k.wrap (a.tdiv b))):=by
 have:(b == 0) = false:=by rw [beq_eq_false_iff_ne];exact fun e=>hb ▸ e
 simp only [a4v,ikb,b7b,cond_true,this,cond_false]
@[go_sem] theorem e4u (hb:(b = 0) = False):a4v E .rem t (.int k a) (.int k b) c = some (.int k (a.tmod b)):=by
 have:(b == 0) = false:=by rw [beq_eq_false_iff_ne];exact fun e=>hb ▸ e
 simp only [a4v,ikb,b7b,cond_true,this,cond_false]
def e6p (k:IntKind) (a b:Int):Int:=k.wrap (BitVec.ofInt k.bits a &&& BitVec.ofInt k.bits b).toNat
def ior (k:IntKind) (a b:Int):Int:=k.wrap (BitVec.ofInt k.bits a ||| BitVec.ofInt k.bits b).toNat
def e6h (k:IntKind) (a b:Int):Int:=k.wrap (BitVec.ofInt k.bits a ^^^ BitVec.ofInt k.bits b).toNat
def c0a (k:IntKind) (a b:Int):Int:=k.wrap (BitVec.ofInt k.bits a &&& ~~~ BitVec.ofInt k.bits b).toNat
def e6j (k:IntKind) (a b:Int):Int:=k.wrap (a * 2 ^ (min b.toNat k.bits))
def e6i (k:IntKind) (a b:Int):Int:=a.fdiv (2 ^ (min b.toNat k.bits))
def e94 (k:IntKind) (a:Int):Int:=k.wrap (BitVec.ofInt k.bits (if k.signed then -1 else k.max) ^^^ BitVec.ofInt k.bits a).toNat
@[go_sem] theorem d3j:a4v E .and t (.int k a) (.int k b) c = some (.int k (e6p k a b)):=by simp only [a4v,ikb,b7b,cond_true,e6p]
@[go_sem] theorem d8x:a4v E .or t (.int k a) (.int k b) c = some (.int k (ior k a b)):=by simp only [a4v,ikb,b7b,cond_true,ior]
@[go_sem] theorem d3c:a4v E .xor t (.int k a) (.int k b) c = some (.int k (e6h k a b)):=by simp only [a4v,ikb,b7b,cond_true,e6h]
@[go_sem] theorem c0t:a4v E .andNot t (.int k a) (.int k b) c = some (.int k (c0a k a b)):=by simp only [a4v,ikb,b7b,cond_true,c0a]
@[go_sem] theorem d3f {k':IntKind} (hb:(b < 0) = False):a4v E .shl t (.int k a) (.int k' b) c = some (.int k (e6j k a b)):=by
 have:decide (b < 0) = false:=by rw [decide_eq_false_iff_not];exact fun e=>hb ▸ e
 simp only [a4v,this,cond_false,e6j]
@[go_sem] theorem d3e {k':IntKind} (hb:(b < 0) = False):a4v E .shr t (.int k a) (.int k' b) c = some (.int k (e6i k a b)):=by
 have:decide (b < 0) = false:=by rw [decide_eq_false_iff_not];exact fun e=>hb ▸ e
 simp only [a4v,this,cond_false,e6i]
theorem f0a (a b:Int):(a == b) = decide (a = b):=by
 by_cases h:a = b
 ·subst h;simp
 ·rw [beq_eq_false_iff_ne.2 h,decide_eq_false h]
@[go_sem] theorem d3i:a4v E .eql t (.int k a) (.int k b) c = some (.bool (decide (a = b))):=by simp only [a4v,ikb,b7b,cond_true,f0a]
@[go_sem] theorem e4w:a4v E .neq t (.int k a) (.int k b) c = some (.bool (!decide (a = b))):=by simp only [a4v,ikb,b7b,cond_true,bne,f0a]
@[go_sem] theorem e4x:a4v E .lss t (.int k a) (.int k b) c = some (.bool (decide (a < b))):=by simp only [a4v,ikb,b7b,cond_true]
@[go_sem] theorem e4y:a4v E .leq t (.int k a) (.int k b) c = some (.bool (decide (a ≤ b))):=by simp only [a4v,ikb,b7b,cond_true]
@[go_sem] theorem d3h:a4v E .gtr t (.int k a) (.int k b) c = some (.bool (decide (b < a))):=by simp only [a4v,ikb,b7b,cond_true]
@[go_sem] theorem e4z:a4v E .geq t (.int k a) (.int k b) c = some (.bool (decide (b ≤ a))):=by simp only [a4v,ikb,b7b,cond_true]
@[go_sem] theorem f6q (b:Bool):(b == b) = true:=by cases b<;>rfl
@[go_sem] theorem e34 (ht:E.und t = some .bool):a4v E .neq t (.bool p) (.bool q) c = some (.bool (!(p == q))):=by
 simp [a4v,AV.eqShape,aeq,ht]
@[go_sem] theorem e7r:aun .not (.bool p) = some (.bool (!p)):=by rfl
@[go_sem] theorem d88:aun .neg (.int k a) = some (.int k (k.wrap (0 - a))):=by rfl
@[go_sem] theorem d87:aun .xor (.int k a) = some (.int k (e94 k a)):=by rfl
@[go_sem] theorem e04 (o:Option AObj) (r:a06):a04 (o :: r) 0 = o:=by simp [a04]
@[go_sem] theorem e05 (o:Option AObj) (r:a06) (n:Nat):a04 (o :: r) (n + 1) = a04 r n:=by simp [a04]
@[go_sem] theorem e36 (n:Nat):a04 [] n = none:=by rfl
def slT (E:Env) (t:TypeId):Option TypeId:=match E.und t with|some (.slice e)=>some e|_=>none
theorem a3a {e:TypeId}:slT E t = some e ↔ E.und t = some (.slice e):=by
 unfold slT
 constructor
 ·intro h;split at h
  ·rename_i heq;cases h;exact heq
  ·cases h
 ·intro h;rw [h]
def a7t:Option AObj → Option (Nat × List (List AV))
 | some (.row k rows)=>some (k,rows)
 | _=>none
attribute [go_sem] a7t
def rowAt (rows:List (List AV)) (i:Int):Option (List AV):=if 0 ≤ i then rows[i.toNat]? else none
@[go_sem] theorem rowAt_nat (rows:List (List AV)) (n:Nat):rowAt rows (n:Int) = rows[n]?:=by simp [rowAt]
theorem c5o {rows:List (List AV)} {i:Int} (h:0 ≤ i):rowAt rows i = rows[i.toNat]?:=by simp [rowAt,h]
def inR (i:Int) (n:Nat):Bool:=decide (0 ≤ i) && decide (i < n)
@[go_sem] theorem c09 (j n:Nat):inR (j:Int) n = decide (j < n):=by
 unfold inR
 rw [decide_eq_true (by omega:(0:Int) ≤ j),Bool.true_and]
 by_cases h:j < n
 ·rw [decide_eq_true h,decide_eq_true (by omega)]
 ·rw [decide_eq_false h,decide_eq_false (by omega)]
theorem b71 {i:Int} {n:Nat}:c4k (.int k i) n = bif inR i n then some i.toNat else none:=rfl
@[go_sem] theorem d9z {b o n:Nat} {cp:Option Nat} (hs:(slT E t).isSome = true):b9f E h t (.slice b o n cp) = some (.int .i64 n):=by
 obtain ⟨e,he⟩:=Option.isSome_iff_exists.1 hs
 simp only [b9f,a3a.1 he]
@[go_sem] theorem d8o {rows:List (List AV)} {cp:Option Nat} (hs:(slT E t).isSome = true):b9f E h t (.islice rows cp) = some (.int .i64 rows.length):=by
 obtain ⟨e,he⟩:=Option.isSome_iff_exists.1 hs
 simp only [b9f,a3a.1 he]
@[go_sem] theorem e4r (hs:(slT E t).isSome = true):b9f E h t .nilslice = some (.int .i64 0):=by
 obtain ⟨e,he⟩:=Option.isSome_iff_exists.1 hs
 simp only [b9f,a3a.1 he]
def e1q (E:Env) (e:Option TypeId) (r:Option (List AV)):Option AV:=match e,r with
 | some e,some r=>bif isT E e && decide (r.length = E.sz e) then some (.iptr r) else none
 | _,_=>none
attribute [go_sem] e1q
theorem b5e (a b:Nat):(a == b) = decide (a = b):=by
 by_cases h:a = b
 ·subst h;simp
 ·rw [beq_eq_false_iff_ne.2 h,decide_eq_false h]
@[go_sem] theorem b2y {rows:List (List AV)} {cp:Option Nat} {i:Int}:a16 E h t (.islice rows cp) (.int k i) = match slT E t with|some e=>e1q E (some e) (rowAt rows i)|none=>a16 E h t (.islice rows cp) (.int k i):=by
 cases hs:slT E t with
 | none=>rfl
 | some e=>
  have hu:=a3a.1 hs
  simp only [a16,hu,b71,inR,e1q,isT]
  by_cases h0:0 ≤ i
  ·rw [decide_eq_true h0,c5o h0]
   by_cases h1:i < rows.length
   ·rw [decide_eq_true h1]
    have:i.toNat < rows.length:=by omega
    simp only [z9e this,Bool.and_self,cond_true,b5e]
    cases (E.und e).isSome<;>rfl
   ·rw [decide_eq_false h1]
    rw [List.getElem?_eq_none (by omega)]
    simp
  ·simp [h0,rowAt]
def e6n (E:Env) (e:Option TypeId) (ok:Bool) (r:Option (Nat × List (List AV))) (b j:Nat):Option AV:=match e,r with
 | some e,some r=>bif isT E e && ok && decide (r.1 = E.sz e) then some (.ptr b j 0) else none
 | _,_=>none
attribute [go_sem] e6n Int.toNat_natCast
@[go_sem] theorem d9j {b o n:Nat} {cp:Option Nat} {i:Int}:a16 E h t (.slice b o n cp) (.int k i) = match slT E t with|some e=>e6n E (some e) (inR i n) (a7t (h b)) b (o + i.toNat)|none=>a16 E h t (.slice b o n cp) (.int k i):=by
 cases hs:slT E t with
 | none=>rfl
 | some e=>
  have hu:=a3a.1 hs
  simp only [a16,hu,b71,e6n,isT]
  cases hb:h b with
  | none=>cases inR i n<;>simp [a7t]
  | some o=>
   cases o<;>cases inR i n<;>simp [a7t,b5e]
   cases (E.und e).isSome<;>simp
def c0o (E:Env) (t:TypeId):Option (Nat × TypeId):=match E.und t with|some (.array m e)=>some (m,e)|_=>none
theorem d2y {m:Nat} {e:TypeId}:c0o E t = some (m,e) → E.und t = some (.array m e):=by
 unfold c0o;intro h;split at h
 ·rename_i heq;cases h;exact heq
 ·cases h
def b4z (E:Env) (n:Nat) (e:TypeId) (p:AV) (j:Int):Option AV:=
 bif inR j n && isT E e then match p with
  | .ptr b i o=>some (.ptr b i (o + j.toNat * E.sz e))
  | .iptr cs=>some (.iptr (cs.drop (j.toNat * E.sz e)))
  | _=>none
 else none
@[go_sem] theorem d9i (n:Nat) (e:TypeId) (b i o:Nat) (j:Int):b4z E n e (.ptr b i o) j = bif inR j n && isT E e then some (.ptr b i (o + j.toNat * E.sz e)) else none:=by rfl
@[go_sem] theorem d6y (n:Nat) (e:TypeId) (cs:List AV) (j:Int):b4z E n e (.iptr cs) j = bif inR j n && isT E e then some (.iptr (cs.drop (j.toNat * E.sz e))) else none:=by rfl
theorem c1w {n:Nat} {e:TypeId} {p:AV} {j:Int} (hu:c0o E t = some (n,e)):a16 E h t p (.int k j) = b4z E n e p j:=by
 simp only [a16,d2y hu,b71,b4z,isT]
 cases inR j n with
 | false=>rfl
 | true=>
  simp only [cond_true,Bool.true_and]
  cases (E.und e).isSome<;>cases p<;>rfl
@[go_sem] theorem e49 {b i o:Nat} {j:Int}:a16 E h t (.ptr b i o) (.int k j) = match c0o E t with|some (n,e)=>b4z E n e (.ptr b i o) j|none=>a16 E h t (.ptr b i o) (.int k j):=by
 cases hu:c0o E t with
 | none=>rfl
 | some x=>exact c1w hu
@[go_sem] theorem e1r {cs:List AV} {j:Int}:a16 E h t (.iptr cs) (.int k j) = match c0o E t with|some (n,e)=>b4z E n e (.iptr cs) j|none=>a16 E h t (.iptr cs) (.int k j):=by
 cases hu:c0o E t with
 | none=>rfl
 | some x=>exact c1w hu
@[go_sem] theorem f2k (n:Nat):inR 0 n = decide (0 < n):=c09 0 n
@[go_sem] theorem e59:Int.toNat 0 = 0:=by rfl
@[go_sem] theorem f2j (n:Nat):inR 1 n = decide (1 < n):=c09 1 n
@[go_sem] theorem e58:Int.toNat 1 = 1:=by rfl
@[go_sem] theorem f2i (n:Nat):inR 2 n = decide (2 < n):=c09 2 n
@[go_sem] theorem e57:Int.toNat 2 = 2:=by rfl
@[go_sem] theorem d9y {cs:List AV}:a7g E h t (.iptr cs) = a2e E t (cs.take (E.sz t)):=by rfl
@[go_sem] theorem e31 {b i o:Nat}:a7g E h t (.ptr b i o) = a0j (a7t (h b)) fun kr=>a0j (kr.2[i]?) fun r=>a2e E t ((r.drop o).take (E.sz t)):=by
 unfold a7g
 cases hb:h b with
 | none=>simp only [hb];rfl
 | some ob=>
  cases ob<;>simp only [hb,a7t,a0j]
  rename_i rows
  cases rows[i]?<;>rfl
@[go_sem] theorem d9s {b i o:Nat} {x:AV}:a7j E h t (.ptr b i o) x = a0j (a7t (h b)) fun kr=>a0j (kr.2[i]?) fun r=>
 bif decide (x.cells.length = E.sz t) && isT E t && Nat.ble (o + x.cells.length) r.length && x.cells.all AV.storable then some (.set b (.row kr.1 (kr.2.set i (splice r o x.cells)))) else none:=by
 unfold a7j
 cases hb:h b with
 | none=>simp only [hb];rfl
 | some ob=>
  cases ob<;>simp only [hb,a7t,a0j]
  rename_i rows
  cases rows[i]?<;>simp only [isT,b5e]
@[go_sem] theorem f0b {n:Nat}:d8k E n t = a0j (E.zero t) fun z=>bif decide (0 < z.length) then some (.ptr n 0 0,.new (.row z.length [z])) else none:=by
 unfold d8k
 cases E.zero t with
 | none=>rfl
 | some z=>simp only [a0j];cases z<;>rfl
@[go_sem] theorem f0c {n:Nat} {x:AV}:d8v n x = bif !x.isJunk && decide (0 < x.cells.length) then some (.ptr n 0 0,.new (.row x.cells.length [x.cells])) else none:=by
 have e:Nat.blt 0 x.cells.length = decide (0 < x.cells.length):=by rw [Bool.eq_iff_iff];simp [Nat.blt_eq]
 cases x<;>simp only [d8v,e,AV.isJunk,Bool.not_false,Bool.true_and,Bool.not_true,Bool.false_and,cond_false]
theorem c4s (a b:Nat):Nat.ble a b = decide (a ≤ b):=by rw [Bool.eq_iff_iff];simp [Nat.ble_eq]
theorem c4g (a b:Nat):Nat.blt a b = decide (a < b):=by rw [Bool.eq_iff_iff];simp [Nat.blt_eq]
attribute [go_sem] c4s c4g
@[go_sem] theorem e3f (r:List AV) (o:Nat) (cs:List AV):splice r o cs = r.take o ++ cs ++ r.drop (o + cs.length):=by rfl
def b9e (E:Env) (e:TypeId) (l c:Int):Bool:=decide (0 ≤ l) && decide (l ≤ c) && decide (c ≤ 281474976710656) && decide ((E.bytes e:Int) * c ≤ 281474976710656)
@[go_sem] theorem d4n {n:Nat} {k':IntKind} {l c:Int}:a3p E n t (.int k l) (.int k' c) = a0j (slT E t) fun e=>a0j (E.zero e) fun z=>bif b9e E e l c && decide (0 < z.length) then
 some (AV.slice n 0 l.toNat (some c.toNat),Eff.new (.row z.length (List.replicate c.toNat z))) else none:=by
 cases hs:slT E t with
 | none=>
  unfold a3p
  unfold slT at hs
  cases hu:E.und t with
  | none=>rfl
  | some d=>cases d<;>first|rfl|(rw [hu] at hs;cases hs)
 | some e=>
  have hu:=a3a.1 hs
  simp only [a3p,hu,a0j,b9e,c4g]
  cases E.zero e<;>rfl
theorem a3i {e:TypeId} {m:Nat} (h:m ≤ 1000000000) (hb:E.bytes e ≤ 1000):b9e E e (m:Int) (m:Int) = true:=by
 unfold b9e
 have h1:E.bytes e * m ≤ 1000 * 1000000000:=Nat.mul_le_mul hb h
 have h2:((E.bytes e:Int) * (m:Int)) = ((E.bytes e * m:Nat):Int):=by simp
 rw [h2]
 simp only [Bool.and_eq_true,decide_eq_true_eq]
 omega
@[go_sem] theorem d39 {n m:Nat} {ps:List (Nat × AV)}:a34 E n t m ps = a0j (slT E t) fun e=>a0j (E.zero e) fun z=>bif decide (0 < z.length) && decide (m * z.length ≤ 16777216) then
 a0j (b3r z.length (List.replicate m z) ps) fun rows=>some (AV.slice n 0 m (some m),Eff.new (.row z.length rows)) else none:=by
 cases hs:slT E t with
 | none=>
  unfold a34
  unfold slT at hs
  cases hu:E.und t with
  | none=>rfl
  | some d=>cases d<;>first|rfl|(rw [hu] at hs;cases hs)
 | some e=>
  have hu:=a3a.1 hs
  simp only [a34,hu,a0j]
  cases E.zero e with
  | none=>rfl
  | some z=>
   simp only [c4g,c4s]
   cases decide (0 < z.length) && decide (m * z.length ≤ 16777216) with
   | false=>rfl
   | true=>simp only [cond_true];cases b3r z.length (List.replicate m z) ps<;>rfl
@[go_sem] theorem e2x (m:Nat) (rows:List (List AV)):b3r m rows [] = some rows:=by rfl
@[go_sem] theorem d9w (m:Nat) (rows:List (List AV)) (i:Nat) (v:AV) (r:List (Nat × AV)):b3r m rows ((i,v) :: r) = bif !v.isJunk && decide (v.cells.length = m) && decide (i < rows.length) then b3r m (rows.set i v.cells) r else none:=by
 simp only [b3r,b5e,c4g]
@[go_sem] theorem e32 (pl:Nat → Option (Nat × Nat)) (cs:List AV):b10 pl cs [] = some cs:=by rfl
@[go_sem] theorem e00 (pl:Nat → Option (Nat × Nat)) (cs:List AV) (i:Nat) (v:AV) (r:List (Nat × AV)):b10 pl cs ((i,v) :: r) = a0j (pl i) fun x=>bif !v.isJunk && decide (v.cells.length = x.2) && decide (x.1 + x.2 ≤ cs.length) then b10 pl (splice cs x.1 v.cells) r else none:=by
 simp only [b10]
 cases pl i with
 | none=>rfl
 | some x=>simp only [a0j,b5e,c4s]
@[go_sem] theorem e27 {H:a06}:b01 H .none = H:=by rfl
@[go_sem] theorem e4k {H:a06} {o:AObj}:b01 H (.new o) = H ++ [some o]:=by rfl
@[go_sem] theorem e4j {H:a06} {b:Nat} {o:AObj}:b01 H (.set b o) = H.set b (some o):=by rfl
@[go_sem] theorem e28 {H:a06} {b:Nat} {o:AObj}:b01 H (.kill b o) = H.set b none ++ [some o]:=by rfl
@[go_sem] theorem e4i {n:Nat} {o:AObj}:Eff.fits n (.new o) = true:=by rfl
@[go_sem] theorem e1z {n:Nat}:Eff.fits n .none = true:=by rfl
@[go_sem] theorem e4h {n b:Nat} {o:AObj}:Eff.fits n (.set b o) = decide (b < n):=c4g b n
@[go_sem] theorem e20 {n b:Nat} {o:AObj}:Eff.fits n (.kill b o) = decide (b < n):=c4g b n
attribute [go_sem] List.all_cons List.all_nil List.set_cons_zero List.set_cons_succ List.set_nil List.replicate_zero
end
@[go_sem] theorem d9r (b:Bool):AV.cells (.bool b) = [(AV.bool b)]:=by rfl
@[go_sem] theorem d03 (b:Bool):AV.storable (.bool b) = true:=by rfl
@[go_sem] theorem e2n (k:IntKind) (n:Int):AV.cells (.int k n) = [(AV.int k n)]:=by rfl
@[go_sem] theorem d3t (k:IntKind) (n:Int):AV.storable (.int k n) = true:=by rfl
@[go_sem] theorem e46 (k:IntKind) (n:Int):AV.isJunk (.int k n) = false:=by rfl
@[go_sem] theorem d94 (k:IntKind) (n:Int):a0u (.int k n) = []:=by rfl
@[go_sem] theorem e2m (s:List UInt8):AV.cells (.str s) = [(AV.str s)]:=by rfl
@[go_sem] theorem d3s (s:List UInt8):AV.storable (.str s) = true:=by rfl
@[go_sem] theorem e45 (s:List UInt8):AV.isJunk (.str s) = false:=by rfl
@[go_sem] theorem c9k  : AV.cells .nilslice = [AV.nilslice]:=by rfl
@[go_sem] theorem c2w  : AV.storable .nilslice = true:=by rfl
@[go_sem] theorem c51  : a0u .nilslice = []:=by rfl
@[go_sem] theorem d92 (b i o:Nat):a0u (.ptr b i o) = [b]:=by rfl
@[go_sem] theorem d56 (l:List AV):a0u (.iptr l) = []:=by rfl
@[go_sem] theorem d81 (b o n:Nat) (c:Option Nat):AV.cells (.slice b o n c) = [(AV.slice b o n c)]:=by rfl
@[go_sem] theorem c9h (b o n:Nat) (c:Option Nat):AV.storable (.slice b o n c) = true:=by rfl
@[go_sem] theorem d9h (b o n:Nat) (c:Option Nat):AV.isJunk (.slice b o n c) = false:=by rfl
@[go_sem] theorem d3q (b o n:Nat) (c:Option Nat):a0u (.slice b o n c) = [b]:=by rfl
@[go_sem] theorem d4h (r:List (List AV)) (c:Option Nat):AV.cells (.islice r c) = [(AV.islice r c)]:=by rfl
@[go_sem] theorem c55 (r:List (List AV)) (c:Option Nat):AV.storable (.islice r c) = true:=by rfl
@[go_sem] theorem d6v (r:List (List AV)) (c:Option Nat):AV.isJunk (.islice r c) = false:=by rfl
@[go_sem] theorem d00 (r:List (List AV)) (c:Option Nat):a0u (.islice r c) = []:=by rfl
@[go_sem] theorem d93 (b:Nat):a0u (.map b) = [b]:=by rfl
@[go_sem] theorem d9q (f:Fn) (a b:List AV):AV.cells (.func f a b) = [(AV.func f a b)]:=by rfl
@[go_sem] theorem d02 (f:Fn) (a b:List AV):AV.storable (.func f a b) = true:=by rfl
@[go_sem] theorem e1o (f:Fn) (a b:List AV):AV.isJunk (.func f a b) = false:=by rfl
@[go_sem] theorem e2o (l:List AV):AV.cells (.agg l) = l:=by rfl
@[go_sem] theorem e47 (l:List AV):AV.isJunk (.agg l) = false:=by rfl
@[go_sem] theorem e1l (n:Nat):Eff.keys n .none = []:=by rfl
@[go_sem] theorem e43 (n:Nat) (o:AObj):Eff.keys n (.new o) = [n]:=by rfl
@[go_sem] theorem e42 (n b:Nat) (o:AObj):Eff.keys n (.set b o) = [b]:=by rfl
@[go_sem] theorem e1m (n b:Nat) (o:AObj):Eff.keys n (.kill b o) = [b,n]:=by rfl
@[go_sem] theorem f1m:1 + 1 = 2:=by rfl
@[go_sem] theorem f1l:2 + 1 = 3:=by rfl
@[go_sem] theorem f1k:3 + 1 = 4:=by rfl
@[go_sem] theorem f1j:4 + 1 = 5:=by rfl
@[go_sem] theorem f1i:5 + 1 = 6:=by rfl
@[go_sem] theorem f1h:6 + 1 = 7:=by rfl
@[go_sem] theorem f1g:7 + 1 = 8:=by rfl
@[go_sem] theorem f1f:8 + 1 = 9:=by rfl
@[go_sem] theorem f1e:9 + 1 = 10:=by rfl
@[go_sem] theorem e90:10 + 1 = 11:=by rfl
@[go_sem] theorem e8z:11 + 1 = 12:=by rfl
@[go_sem] theorem e8y:12 + 1 = 13:=by rfl
@[go_sem] theorem e8x:13 + 1 = 14:=by rfl
@[go_sem] theorem e8u:2 + 2 = 4:=by rfl
@[go_sem] theorem e8t:2 + 3 = 5:=by rfl
@[go_sem] theorem e8s:3 + 2 = 5:=by rfl
@[go_sem] theorem e8r:3 + 3 = 6:=by rfl
@[go_sem] theorem e8w:1 + 2 = 3:=by rfl
@[go_sem] theorem e8v:1 + 3 = 4:=by rfl
@[go_sem] theorem e3m {α:Type} (a:α):List.replicate 1 a = [a]:=by rfl
@[go_sem] theorem e3l {α:Type} (a:α):List.replicate 2 a = [a,a]:=by rfl
@[go_sem] theorem e3k {α:Type} (a:α):List.replicate 3 a = [a,a,a]:=by rfl
attribute [go_sem] List.map_cons List.map_nil List.append_nil List.nil_append List.cons_append List.length_cons List.length_nil a28 cond_true cond_false Option.map_some Option.map_none List.drop_zero List.drop_succ_cons List.take_succ_cons List.take_zero List.drop_nil List.take_nil List.getElem?_cons_zero List.getElem?_cons_succ List.getElem?_nil Nat.zero_add Nat.add_zero Nat.zero_mul Nat.mul_one decide_true decide_false Bool.and_true Bool.true_and Bool.and_false Bool.false_and Bool.or_true Bool.true_or Bool.or_false Bool.false_or Bool.not_true Bool.not_false Option.bind_some Option.isSome_some a2o decide_eq_true_eq
end Go.Ax
/- AxFlat: values that refer to no mutable block: renaming and freezing leave them; calls on them. -/
namespace Go.Ax
mutual
theorem a2b (π:Nat → Option Nat):∀ (v:AV),refs v = [] → ren π v = v
 | .ptr ..,h=>by simp [refs] at h
 | .slice ..,h=>by simp [refs] at h
 | .map ..,h=>by simp [refs] at h
 | .func fn fs cs,h=>by
  simp only [refs,List.append_eq_nil_iff] at h
  simp only [ren,a6n π fs h.1,a6n π cs h.2]
 | .iface t x,h=>by simp only [refs] at h;simp only [ren,a2b π x h]
 | .agg cs,h=>by simp only [refs] at h;simp only [ren,a6n π cs h]
 | .tuple cs,h=>by simp only [refs] at h;simp only [ren,a6n π cs h]
 | .junk,_|.bool _,_|.int ..,_|.str _,_|.nilptr,_|.nilslice,_|.nilmap,_|.nilfunc,_|.nilifc,_|.iptr _,_|.islice ..,_|.imap ..,_=>rfl
theorem a6n (π:Nat → Option Nat):∀ (l:List AV),a0d l = [] → b76 π l = l
 | [],_=>rfl
 | v :: vs,h=>by
  simp only [a0d,List.append_eq_nil_iff] at h
  simp only [b76,a2b π v h.1,a6n π vs h.2]
end
theorem a5n (π:Nat → Option Nat) {l:List AV} (h:a0d l = []):l.map (ren π) = l:=by rw [← a72];exact a6n π l h
mutual
theorem a9v (m:Nat) (top:Bool) (d:AV → Option AV):∀ (v:AV),refs v = [] → a42 m top d v = some v
 | .ptr ..,h=>by simp [refs] at h
 | .slice ..,h=>by simp [refs] at h
 | .map ..,h=>by simp [refs] at h
 | .func fn fs cs,h=>by
  simp only [refs,List.append_eq_nil_iff] at h
  simp only [a42,a6t m top d fs h.1,a6t m top d cs h.2]
 | .iface t x,h=>by simp only [refs] at h;simp only [a42,a9v m top d x h]
 | .agg cs,h=>by simp only [refs] at h;simp only [a42,a6t m top d cs h]
 | .tuple cs,h=>by simp only [refs] at h;simp only [a42,a6t m top d cs h]
 | .junk,_|.bool _,_|.int ..,_|.str _,_|.nilptr,_|.nilslice,_|.nilmap,_|.nilfunc,_|.nilifc,_|.iptr _,_|.islice ..,_|.imap ..,_=>rfl
theorem a6t (m:Nat) (top:Bool) (d:AV → Option AV):∀ (l:List AV),a0d l = [] → a64 m top d l = some l
 | [],_=>rfl
 | v :: vs,h=>by
  simp only [a0d,List.append_eq_nil_iff] at h
  simp only [a64,a9v m top d v h.1,a6t m top d vs h.2]
end
def FlatR (rows:List (List AV)):Prop:=∀ r ∈ rows,a0d r = []
theorem FlatR.nil:FlatR []:=fun r h=>by simp at h
theorem FlatR.cons {r:List AV} {rows:List (List AV)} (h:a0d r = []) (hs:FlatR rows):FlatR (r :: rows):=by
 intro x hx;simp only [List.mem_cons] at hx;rcases hx with rfl|hx
 ·exact h
 ·exact hs x hx
theorem FlatR.append {a b:List (List AV)} (h:FlatR a) (k:FlatR b):FlatR (a ++ b):=by
 intro x hx;simp only [List.mem_append] at hx;exact hx.elim (h x) (k x)
theorem FlatR.map {α:Type} {f:α → List AV} {l:List α} (h:∀ x,a0d (f x) = []):FlatR (l.map f):=by
 intro x hx;simp only [List.mem_map] at hx;obtain ⟨y,_,rfl⟩:=hx;exact h y
theorem FlatR.replicate {n:Nat} {r:List AV} (h:a0d r = []):FlatR (List.replicate n r):=by
 intro x hx;rw [(List.mem_replicate.1 hx).2];exact h
theorem a03 {rows:List (List AV)} (h:FlatR rows):rows.flatMap a0d = []:=by
 rw [List.flatMap_eq_nil_iff];exact h
theorem a01 (π:Nat → Option Nat) {rows:List (List AV)} (h:FlatR rows):rows.map (fun r=>r.map (ren π)) = rows:=by
 conv=>rhs;rw [← List.map_id rows]
 exact List.map_congr_left fun r hr=>a5n π (h r hr)
theorem a0s (m:Nat) (d:AV → Option AV):∀ {rows:List (List AV)},FlatR rows → a7m m d rows = some rows
 | [],_=>rfl
 | r :: rs,h=>by
  simp only [a7m,a6t m false d r (h r (by simp)),a0s m d (rows:=rs) (fun x hx=>h x (by simp [hx]))]
/-! ### slices that are immutable, nil or not -/
def sl (c:Option (Option Nat)) (rows:List (List AV)):AV:=match c,rows with
 | none,[]=>.nilslice
 | none,r :: rs=>.islice (r :: rs) none
 | some c,rows=>.islice rows c
@[go_sem] theorem a2v (c:Option Nat) (rows:List (List AV)):sl (some c) rows = .islice rows c:=by cases rows<;>rfl
@[go_sem] theorem b9n:sl none [] = .nilslice:=by rfl
@[go_sem] theorem a5x (r:List AV) (rs:List (List AV)):sl none (r :: rs) = .islice (r :: rs) none:=by rfl
theorem c2y {rows:List (List AV)} (h:rows ≠ []):sl none rows = .islice rows none:=by cases rows with|nil=>exact absurd rfl h|cons=>rfl
@[go_sem] theorem a2r (c:Option (Option Nat)) (rows:List (List AV)):refs (sl c rows) = []:=by cases c<;>cases rows<;>rfl
@[go_sem] theorem c1d (π:Nat → Option Nat) (c:Option (Option Nat)) (rows:List (List AV)):ren π (sl c rows) = sl c rows:=a2b π _ (a2r c rows)
@[go_sem] theorem e0e (c:Option (Option Nat)) (rows:List (List AV)):a0u (sl c rows) = []:=by cases c<;>cases rows<;>rfl
@[go_sem] theorem e4n (c:Option (Option Nat)) (rows:List (List AV)):(sl c rows).cells = [sl c rows]:=by cases c<;>cases rows<;>rfl
@[go_sem] theorem b9l (c:Option (Option Nat)) (rows:List (List AV)):(sl c rows).storable = true:=by cases c<;>cases rows<;>rfl
@[go_sem] theorem e6g (c:Option (Option Nat)) (rows:List (List AV)):(sl c rows).isJunk = false:=by cases c<;>cases rows<;>rfl
section
variable {E:Env} {h:FHeap} {t e:TypeId} {c:Option (Option Nat)} {rows:List (List AV)} {k:IntKind}
@[go_sem] theorem e7w (hs:(slT E t).isSome = true):b9f E h t (sl c rows) = some (.int .i64 rows.length):=by
 obtain ⟨e,he⟩:=Option.isSome_iff_exists.1 hs
 have ht:=a3a.1 he
 cases c<;>cases rows<;>simp [sl,b9f,ht]
@[go_sem] theorem e6o {i:Int}:a16 E h t (sl c rows) (.int k i) = match slT E t with|some e=>e1q E (some e) (rowAt rows i)|none=>a16 E h t (sl c rows) (.int k i):=by
 cases c with
 | some c=>rw [a2v];exact b2y
 | none=>cases rows with
  | nil=>
   cases hs:slT E t with
   | none=>rfl
   | some e=>
    have hu:=a3a.1 hs
    simp only [sl,a16,hu,e1q]
    cases h2:rowAt [] i with
    | none=>simp
    | some r=>unfold rowAt at h2;split at h2<;>simp at h2
  | cons a l=>exact b2y
end
/-! ### calls -/
@[go_sem] theorem e7h (a:AV):a3n 0 [a] = [(0,a)]:=by rfl
@[go_sem] theorem e7g (a b:AV):a3n 0 [a,b] = [(0,a),(1,b)]:=by rfl
@[go_sem] theorem e7f (a b c:AV):a3n 0 [a,b,c] = [(0,a),(1,b),(2,c)]:=by rfl
@[go_sem] theorem e7e (a b c d:AV):a3n 0 [a,b,c,d] = [(0,a),(1,b),(2,c),(3,d)]:=by rfl
@[go_sem] theorem e7d (a b c d e:AV):a3n 0 [a,b,c,d,e] = [(0,a),(1,b),(2,c),(3,d),(4,e)]:=by rfl
@[go_sem] theorem e7c (a b c d e f:AV):a3n 0 [a,b,c,d,e,f] = [(0,a),(1,b),(2,c),(3,d),(4,e),(5,f)]:=by rfl
theorem b2c (n:Nat) (H1:a06):∀ (b:Nat) (H:a06),a11 [] n H1 b H = H
 | _,[]=>rfl
 | b,o :: r=>by
  simp only [a11,List.idxOf?_nil,b2c n H1 (b + 1) r]
theorem b8x {run:List AV → a06 → Option (AV × a06)} {args:List AV} {H:a06} {v:AV} (ha:a0d args = []) (h:run args [] = some (v,[])) (hv:refs v = []):a2t run args H = some (v,H,[]):=by
 unfold a2t
 have hr:a2j H a4o (a0d args) [] = []:=by rw [ha];rfl
 simp only [hr,a51,List.all_nil,Bool.and_self,cond_true,a5n _ ha,a1n,List.map_nil,h,a2b _ v hv,b2c,List.drop_nil,List.append_nil,List.length_nil]
theorem a05 {E:Env} {draw:Bool} {call:CallF} {g:FuncId} {fs cs ar args:List AV} {H:a06} {v:AV} (hx:E.ext g = false) (hf:(E.fn g).isSome = true) (he:fs ++ ar ++ cs = args) (ha:a0d args = []) (h:call g args [] = some (v,[])) (hv:refs v = []) :
 a0e E draw call (.func (.func g) fs cs) ar H = some (v,H,[]):=by
 simp only [a0e,hx,hf,he,cond_true,cond_false,b8x ha h hv]
 cases draw
 ·rfl
 ·simp only [Bool.true_and]
  rw [show Nat.beq H.length H.length = true by rw [Nat.beq_eq]]
  rfl
@[go_sem] theorem b1j (k:IntKind) (n:Int):refs (.int k n) = []:=by rfl
@[go_sem] theorem e0v (b:Bool):refs (.bool b) = []:=by rfl
@[go_sem] theorem e3t (s:List UInt8):refs (.str s) = []:=by rfl
@[go_sem] theorem a93 (r:List (List AV)) (c:Option Nat):refs (.islice r c) = []:=by rfl
@[go_sem] theorem e0u (r:List AV):refs (.iptr r) = []:=by rfl
@[go_sem] theorem b5w:refs .nilslice = []:=by rfl
@[go_sem] theorem a10 (l:List AV):refs (.agg l) = a0d l:=by rfl
@[go_sem] theorem b4k (l:List AV):refs (.tuple l) = a0d l:=by rfl
@[go_sem] theorem b7p (f:Fn) (a b:List AV):refs (.func f a b) = a0d a ++ a0d b:=by rfl
@[go_sem] theorem b1i (b i o:Nat):refs (.ptr b i o) = [b]:=by rfl
@[go_sem] theorem a6o (b i o:Nat) (c:Option Nat):refs (.slice b i o c) = [b]:=by rfl
@[go_sem] theorem e3u (b:Nat):refs (.map b) = [b]:=by rfl
@[go_sem] theorem a3d:a0d [] = []:=by rfl
@[go_sem] theorem a0c (v:AV) (l:List AV):a0d (v :: l) = refs v ++ a0d l:=by rfl
/-! ### what a loop's head keeps -/
/-! ### globals -/
def gV:Option (List AV) → AV|some cs=>.iptr cs|none=>.junk
@[go_sem] theorem e3x {E:Env} {F:Frm} (g:Nat):opv E F (.global g) = gV (E.G g):=by
 simp only [opv,gV];cases E.G g<;>rfl
@[go_sem] theorem e6r (cs:List AV):gV (some cs) = .iptr cs:=by rfl
end Go.Ax
/- AxBits: words of 64 bits; sums that fit. -/
namespace Go.Ax
def u64 (x:BitVec 64):AV:=.int .u64 (x.toNat:Int)
section
variable {E:Env} {t:TypeId} {c:Bool} {x y:BitVec 64} {k:IntKind}
theorem a7n (x:BitVec 64):IntKind.u64.wrap (x.toNat:Int) = x.toNat:=by
 have:=x.isLt
 exact IntWalk.u64_in _ ⟨by omega,by omega⟩
theorem a3y (x:BitVec 64):BitVec.ofInt 64 (x.toNat:Int) = x:=by
 apply BitVec.eq_of_toNat_eq
 simp
@[go_sem] theorem e7v:a4v E .and t (u64 x) (u64 y) c = some (u64 (x &&& y)):=by
 have h1:=a3y x
 have h2:=a3y y
 simp only [u64,d3j,e6p,IntKind.bits,h1,h2,a7n]
 rfl
@[go_sem] theorem e8q:a4v E .or t (u64 x) (u64 y) c = some (u64 (x ||| y)):=by
 have h1:=a3y x
 have h2:=a3y y
 simp only [u64,d8x,ior,IntKind.bits,h1,h2,a7n]
 rfl
@[go_sem] theorem e52:a4v E .xor t (u64 x) (u64 y) c = some (u64 (x ^^^ y)):=by
 have h1:=a3y x
 have h2:=a3y y
 simp only [u64,d3c,e6h,IntKind.bits,h1,h2,a7n]
 rfl
@[go_sem] theorem d9x:a4v E .andNot t (u64 x) (u64 y) c = some (u64 (x &&& ~~~y)):=by
 have h1:=a3y x
 have h2:=a3y y
 simp only [u64,c0t,c0a,IntKind.bits,h1,h2,a7n]
 rfl
@[go_sem] theorem e7b:a4v E .eql t (u64 x) (u64 y) c = some (.bool (decide (x = y))):=by
 simp only [u64,d3i]
 congr 2
 have:((x.toNat:Int) = (y.toNat:Int)) ↔ x = y:=⟨fun h=>BitVec.eq_of_toNat_eq (by omega),fun h=>by rw [h]⟩
 simp only [this]
theorem a6d (n:Int):IntKind.u64.wrap n = n % 18446744073709551616:=by
 simp [IntKind.wrap,IntKind.bits,IntKind.signed]
@[go_sem] theorem e7y:a4v E .add t (u64 x) (u64 y) c = some (u64 (x + y)):=by
 simp only [u64,d3k,a6d,BitVec.toNat_add]
 congr 2
@[go_sem] theorem e5e:a4v E .sub t (u64 x) (u64 y) c = some (u64 (x - y)):=by
 have hx:=x.isLt
 have hy:=y.isLt
 simp only [u64,d3d,a6d,BitVec.toNat_sub]
 congr 2
 omega
@[go_sem] theorem e6d:aun .neg (u64 x) = some (u64 (-x)):=by
 have hx:=x.isLt
 simp only [u64,d88,a6d,BitVec.toNat_neg]
 congr 2
 omega
@[go_sem] theorem e6c:aun .xor (u64 x) = some (u64 (~~~x)):=by
 have h1:=a3y x
 have e:BitVec.ofInt 64 (if IntKind.u64.signed then -1 else IntKind.u64.max) = BitVec.allOnes 64:=by decide
 simp only [u64,d87,e94]
 rw [show BitVec.ofInt IntKind.u64.bits (if IntKind.u64.signed then -1 else IntKind.u64.max) = BitVec.allOnes 64 from e,show BitVec.ofInt IntKind.u64.bits (x.toNat:Int) = x from h1]
 have e2:((BitVec.allOnes 64:BitVec 64) ^^^ x) = ~~~x:=BitVec.allOnes_xor
 exact congrArg (fun z:BitVec 64=>some (AV.int IntKind.u64 (z.toNat:Int))) e2 ▸ congrArg (fun z=>some (AV.int IntKind.u64 z)) (a7n (BitVec.allOnes 64 ^^^ x))
theorem d7n (m n:Nat) (h:m < 2 ^ 64):m / 2 ^ (min n 64) = m / 2 ^ n:=by
 by_cases hn:n ≤ 64
 ·rw [Nat.min_eq_left hn]
 ·rw [Nat.min_eq_right (by omega),Nat.div_eq_of_lt h,Nat.div_eq_of_lt (Nat.lt_of_lt_of_le h (Nat.pow_le_pow_right (by omega) (by omega)))]
@[go_sem] theorem d5g {k':IntKind} {b:Int} (hb:(b < 0) = False):a4v E .shr t (u64 x) (.int k' b) c = some (u64 (x >>> b.toNat)):=by
 have hx:=x.isLt
 simp only [u64,d3e hb,e6i,IntKind.bits]
 congr 2
 rw [BitVec.toNat_ushiftRight,Nat.shiftRight_eq_div_pow,← d7n x.toNat b.toNat hx,Int.fdiv_eq_ediv_of_nonneg _ (Int.pow_nonneg (by decide)),Int.natCast_ediv,Int.natCast_pow]
 rfl
@[go_sem] theorem e3g:a4v E .shr t (u64 x) (u64 y) c = some (u64 (x >>> y.toNat)):=by
 rw [show u64 y = .int .u64 (y.toNat:Int) from rfl,d5g (eq_false (by omega))]
 simp
theorem d6k (m n:Nat):m * 2 ^ (min n 64) % 18446744073709551616 = m * 2 ^ n % 18446744073709551616:=by
 by_cases hn:n ≤ 64
 ·rw [Nat.min_eq_left hn]
 ·rw [Nat.min_eq_right (by omega)]
  have:2 ^ n = 2 ^ 64 * 2 ^ (n - 64):=by rw [← Nat.pow_add];congr 1;omega
  rw [this,show (18446744073709551616:Nat) = 2 ^ 64 by decide,Nat.mul_mod_left,Nat.mul_left_comm,Nat.mul_mod_right]
@[go_sem] theorem d5h {k':IntKind} {b:Int} (hb:(b < 0) = False):a4v E .shl t (u64 x) (.int k' b) c = some (u64 (x <<< b.toNat)):=by
 simp only [u64,d3f hb,e6j,IntKind.bits,a6d]
 congr 2
 rw [BitVec.toNat_shiftLeft,Nat.shiftLeft_eq,show (2:Nat) ^ 64 = 18446744073709551616 by decide,← d6k]
 rw [Int.natCast_emod,Int.natCast_mul,Int.natCast_pow]
 rfl
@[go_sem] theorem e3h:a4v E .shl t (u64 x) (u64 y) c = some (u64 (x <<< y.toNat)):=by
 rw [show u64 y = .int .u64 (y.toNat:Int) from rfl,d5h (eq_false (by omega))]
 simp
theorem d50 (n:Nat) (h:n < 18446744073709551616):AV.int .u64 (n:Int) = u64 (BitVec.ofNat 64 n):=by
 unfold u64
 rw [BitVec.toNat_ofNat,Nat.mod_eq_of_lt (by omega)]
@[go_sem] theorem e81 {n:Int} (h0:(0 ≤ n) = True) (h1:(n < 18446744073709551616) = True):AV.int .u64 n = u64 (BitVec.ofInt 64 n):=by
 have h0:0 ≤ n:=of_eq_true h0
 have h1:n < 18446744073709551616:=of_eq_true h1
 unfold u64
 congr 1
 rw [BitVec.toNat_ofInt]
 omega
@[go_sem] theorem e3s:refs (u64 x) = []:=by rfl
@[go_sem] theorem e2l:(u64 x).cells = [u64 x]:=by rfl
@[go_sem] theorem d3r:(u64 x).storable = true:=by rfl
@[go_sem] theorem e44:(u64 x).isJunk = false:=by rfl
@[go_sem] theorem d91:a0u (u64 x) = []:=by rfl
@[go_sem] theorem e5q (π:Nat → Option Nat):ren π (u64 x) = u64 x:=by rfl
def c4q (E:Env) (t:TypeId):Option IntKind:=match E.und t with|some (.int k)=>some k|_=>none
theorem c1u {k:IntKind}:c4q E t = some k → E.und t = some (.int k):=by
 unfold c4q;intro h;split at h
 ·rename_i heq;cases h;exact heq
 ·cases h
def cvI (k:IntKind) (n:Int):AV:=.int k (k.wrap n)
@[go_sem] theorem e7i (n:Int):cvI .u64 n = u64 (BitVec.ofInt 64 n):=by
 simp only [cvI,u64,a6d,BitVec.toNat_ofInt]
 congr 1
 omega
@[go_sem] theorem e7j (n:Int):cvI .i64 n = .int .i64 (IntKind.i64.wrap n):=by rfl
@[go_sem] theorem f09 (n:Int):cvI .u8 n = .int .u8 (IntKind.u8.wrap n):=by rfl
@[go_sem] theorem d2h {h:FHeap} {s d:TypeId} {k:IntKind} {n:Int} (hs:isT E s = true):a5t E h s d (.int k n) = match c4q E d with|some k'=>some (cvI k' n)|none=>a5t E h s d (.int k n):=by
 cases hd:c4q E d with
 | none=>rfl
 | some k'=>
  have hu:=c1u hd
  obtain ⟨ds,hds⟩:=Option.isSome_iff_exists.1 (show (E.und s).isSome = true from hs)
  simp only [a5t,hu,hds]
  cases ds<;>simp [d38,hu,hds,cvI]
@[go_sem] theorem e4m {h:FHeap} {s d:TypeId} (hs:isT E s = true):a5t E h s d (u64 x) = match c4q E d with|some k'=>some (cvI k' x.toNat)|none=>a5t E h s d (u64 x):=by
 unfold u64;exact d2h hs
theorem d2v (w:BitVec 64) (j:Nat):decide (w >>> j &&& BitVec.ofInt 64 1 = BitVec.ofInt 64 1) = w.getLsbD j:=by
 have e:BitVec.ofInt 64 1 = 1#64:=by decide
 rw [e,Bool.eq_iff_iff,decide_eq_true_eq]
 constructor
 ·intro h
  have:=congrArg (fun z:BitVec 64=>z.getLsbD 0) h
  simpa using this
 ·intro h
  apply BitVec.eq_of_getLsbD_eq
  intro i hi
  cases i with
  | zero=>simpa using h
  | succ i=>simp [BitVec.getLsbD_one]
theorem w64 {n:Int} (h1:-9223372036854775808 ≤ n) (h2:n ≤ 9223372036854775807):IntKind.i64.wrap n = n:=IntWalk.i64_in n ⟨h1,h2⟩
end
end Go.Ax
/- AxWp: what a statement comes to, by a condition on the end. -/
namespace Go.Ax
@[go_sem] theorem e1n (F:Frm):a1j [] F = []:=by rfl
@[go_sem] theorem d9g (s:Nat) (r:List Nat) (F:Frm):a1j (s :: r) F = (s,a25 F s) :: a1j r F:=by rfl
@[go_sem] theorem c0e {v:AV} {H:a06} (h:refs v = []):a2a false 0 v H = some (v,[]):=by
 simp only [a2a,a9v _ _ _ _ h,List.take_zero,List.map_nil,cond_false]
@[go_sem] theorem e16 (v:AV):a45 [v] = v:=by rfl
@[go_sem] theorem e15 (v w:AV) (l:List AV):a45 (v :: w :: l) = .tuple (v :: w :: l):=by rfl
@[go_sem] theorem e4p {E:Env} {F:Frm} {H:a06}:a1b E F H [] = some []:=by rfl
@[go_sem] theorem e4o {E:Env} {F:Frm} {H:a06} (t:Nat) (r:List ResultVar):a1b E F H (.tmp t :: r) = a0j (a1b E F H r) fun vs=>some (a25 F t :: vs):=by
 simp only [a1b];cases a1b E F H r<;>rfl
@[go_sem] theorem e2z {E:Env} {F:Frm} {H:a06} (a t:Nat) (r:List ResultVar):a1b E F H (.cell a t :: r) = a0j (a7g E (a04 H) t (a25 F a)) fun v=>a0j (a1b E F H r) fun vs=>some (v :: vs):=by
 simp only [a1b];cases a7g E (a04 H) t (a25 F a)<;>cases a1b E F H r<;>rfl
abbrev b0a:=AExit → Frm → a06 → Prop
def bk (id:Nat) (Q:b0a):b0a:=fun e F H=>match e with|.exit i=>if i = id then Q .normal F H else Q (.exit i) F H|e=>Q e F H
def WpR:Code → Cx → Frm → a06 → b0a → Prop
 | .skip,_,F,H,Q=>Q .normal F H
 | .label _,_,F,H,Q=>Q .normal F H
 | .exit id,_,F,H,Q=>Q (.exit id) F H
 | .ret,_,F,H,Q=>Q .ret F H
 | .seq a b,x,F,H,Q=>WpR a x F H fun e F H=>match e with|.normal=>WpR b x F H Q|e=>Q e F H
 | .block id b,x,F,H,Q=>WpR b { x with cur:=id } F H (bk id Q)
 | .scope b,x,F,H,Q=>WpR b x F H Q
 | c,x,F,H,Q=>∃ e F' H',Ev x c F H (e,F',H') ∧ Q e F' H'
def Wp (x:Cx) (c:Code) (F:Frm) (H:a06) (Q:b0a):Prop:=WpR c x F H Q
def sq (x:Cx) (b:Code) (Q:b0a):b0a:=fun e F H=>match e with|.normal=>Wp x b F H Q|e=>Q e F H
def cx (E:Env) (M:List Fact) (m N:Nat) (g:FuncId) (cur:Nat):Cx:=⟨E,M,m,N,E.keep g,cur⟩
def lp {σ:Type} (m:Nat) (keep:List Nat) (Fs:σ → Frm) (Hs:σ → a06) (meas:σ → Nat) (Inv:σ → Prop) (n:Nat) (Q:b0a):b0a:=
 fun e F H=>match e with|.normal=>∃ s,gcD m keep F H = some (Fs s,Hs s) ∧ meas s < n ∧ Inv s|e=>Q e F H
def fq (E:Env) (g:FuncId) (m:Nat) (results:List ResultVar) (r:AV × a06):b0a:=
 fun e F H=>match e with|.exit _=>False|_=>∃ vs,a1b E F H results = some vs ∧ a2a (E.thaw g) m (a45 vs) H = some r
def lpJ (m:Nat) (keep:List Nat) (J:Nat → Frm → a06 → Prop) (n:Nat) (Q:b0a):b0a:=
 fun e F H=>match e with|.normal=>∃ F1 H1 n',gcD m keep F H = some (F1,H1) ∧ n' < n ∧ J n' F1 H1|e=>Q e F H
@[irreducible] def d44:AV → Option Bool|.bool b=>some b|_=>none
@[go_sem] theorem e92:d44 (.bool true) = some true:=by unfold d44;rfl
@[go_sem] theorem e93:d44 (.bool false) = some false:=by unfold d44;rfl
theorem d6o {v:AV} {t:Bool} (h:d44 v = some t):v = .bool t:=by
 unfold d44 at h;split at h
 ·cases h;rfl
 ·cases h
def hs (E:Env) (M:List Fact) (N:Nat):Code → Frm → a06 → Frm → a06 → List LogE → Bool → Prop
 | .region id ops draw,F,H,F1,H1,log,t=>(a8q E draw N (sem E M) ops.toList ops.toList [] F H,true) = (some (F1,H1,log),t)
 | .cond c a b,F,H,F1,H1,log,t=>(d44 (opv E F c),F,H,[]) = (some t,F1,H1,log)
 | _,_,_,_,_,_,_=>False
def sd:Code → List LogE → Bool
 | .region id ops draw,log=>!draw || logOk ops.toList log.length log
 | _,_=>true
def ct (x:Cx):Code → Bool → Frm → a06 → b0a → Prop
 | .region id ops draw,t,F,H,Q=>Q .normal F H
 | .cond c a b,t,F,H,Q=>Wp x (bif t then a else b) F H Q
 | _,_,_,_,_=>False
@[go_sem] theorem f6i (E:Env) (M:List Fact) (N:Nat) (id ops draw F H F1 H1 log t):hs E M N (.region id ops draw) F H F1 H1 log t = ((a8q E draw N (sem E M) ops.toList ops.toList [] F H,true) = (some (F1,H1,log),t)):=by rfl
@[go_sem] theorem f6j (E:Env) (M:List Fact) (N:Nat) (c a b F H F1 H1 log t):hs E M N (.cond c a b) F H F1 H1 log t = ((d44 (opv E F c),F,H,[]) = (some t,F1,H1,log)):=by rfl
theorem wx:(∀ x id ops draw t F H Q,ct x (.region id ops draw) t F H Q = Q .normal F H) ∧ (∀ x c a b F H Q,ct x (.cond c a b) true F H Q = Wp x a F H Q) ∧ (∀ x c a b F H Q,ct x (.cond c a b) false F H Q = Wp x b F H Q):=
 ⟨fun _ _ _ _ _ _ _ _=>rfl,fun _ _ _ _ _ _ _=>rfl,fun _ _ _ _ _ _ _=>rfl⟩
theorem ww:(∀ x F H Q,Wp x .skip F H Q = Q .normal F H) ∧ (∀ x F H Q l,Wp x (.label l) F H Q = Q .normal F H) ∧ (∀ x F H Q i,Wp x (.exit i) F H Q = Q (.exit i) F H) ∧ (∀ x F H Q,Wp x .ret F H Q = Q .ret F H) ∧
 (∀ x a b F H Q,Wp x (.seq a b) F H Q = Wp x a F H (sq x b Q)) ∧ (∀ E M m N g cur i b F H Q,Wp (cx E M m N g cur) (.block i b) F H Q = Wp (cx E M m N g i) b F H (bk i Q)) ∧ (∀ x b F H Q,Wp x (.scope b) F H Q = Wp x b F H Q) ∧
 (∀ x b F H Q,sq x b Q .normal F H = Wp x b F H Q) ∧ (∀ x b F H Q i,sq x b Q (.exit i) F H = Q (.exit i) F H) ∧ (∀ x b F H Q,sq x b Q .ret F H = Q .ret F H) ∧
 (∀ i F H Q,bk i Q .normal F H = Q .normal F H) ∧ (∀ i F H Q,bk i Q .ret F H = Q .ret F H) ∧ (∀ i F H Q,bk i Q (.exit i) F H = Q .normal F H) ∧ (∀ i j F H Q,(j = i) = False → bk i Q (.exit j) F H = Q (.exit j) F H) ∧
 (∀ m keep J n Q i F H,lpJ m keep J n Q (.exit i) F H = Q (.exit i) F H) ∧ (∀ m keep J n Q F H,lpJ m keep J n Q .ret F H = Q .ret F H) ∧
 (∀ (σ:Type) m keep (Fs:σ → Frm) Hs meas Inv n Q i F H,lp m keep Fs Hs meas Inv n Q (.exit i) F H = Q (.exit i) F H) ∧ (∀ (σ:Type) m keep (Fs:σ → Frm) Hs meas Inv n Q F H,lp m keep Fs Hs meas Inv n Q .ret F H = Q .ret F H) ∧
 (∀ a b:Code,cond true a b = a) ∧ (∀ a b:Code,cond false a b = b) ∧
 (∀ x id ops draw t F H Q,ct x (.region id ops draw) t F H Q = Q .normal F H) ∧ (∀ x c a b F H Q,ct x (.cond c a b) true F H Q = Wp x a F H Q) ∧ (∀ x c a b F H Q,ct x (.cond c a b) false F H Q = Wp x b F H Q):=
 ⟨fun _ _ _ _=>rfl,fun _ _ _ _ _=>rfl,fun _ _ _ _ _=>rfl,fun _ _ _ _=>rfl,fun _ _ _ _ _ _=>rfl,fun _ _ _ _ _ _ _ _ _ _ _=>rfl,fun _ _ _ _ _=>rfl,fun _ _ _ _ _=>rfl,fun _ _ _ _ _ _=>rfl,fun _ _ _ _ _=>rfl,
  fun _ _ _ _=>rfl,fun _ _ _ _=>rfl,fun i F H Q=>by simp only [bk,if_pos],fun i j F H Q h=>by simp only [bk,h,if_false],fun _ _ _ _ _ _ _ _=>rfl,fun _ _ _ _ _ _ _=>rfl,fun _ _ _ _ _ _ _ _ _ _ _ _=>rfl,fun _ _ _ _ _ _ _ _ _ _ _=>rfl,fun _ _=>rfl,fun _ _=>rfl,wx⟩
theorem c4x:∀ (c:Code) {x:Cx} {F:Frm} {H:a06} {Q:b0a},Wp x c F H Q → ∃ e F' H',Ev x c F H (e,F',H') ∧ Q e F' H':=by
 intro c
 induction c with
 | skip=>intro x F H Q h;exact ⟨_,_,_,Ev.skip,h⟩
 | label l=>intro x F H Q h;exact ⟨_,_,_,Ev.label,h⟩
 | exit i=>intro x F H Q h;exact ⟨_,_,_,Ev.leave,h⟩
 | ret=>intro x F H Q h;exact ⟨_,_,_,Ev.ret,h⟩
 | seq a b iha ihb=>
  intro x F H Q h
  obtain ⟨e,F',H',h1,h2⟩:=iha h
  cases e with
  | normal=>obtain ⟨e2,F2,H2,h3,h4⟩:=ihb h2;exact ⟨e2,F2,H2,Ev.seq h1 h3,h4⟩
  | exit id=>exact ⟨_,_,_,Ev.seq_exit h1,h2⟩
  | ret=>exact ⟨_,_,_,Ev.seq_ret h1,h2⟩
 | block id b ih=>
  intro x F H Q h
  obtain ⟨e,F',H',h1,h2⟩:=ih h
  cases e with
  | normal=>exact ⟨_,_,_,Ev.block h1,h2⟩
  | exit i=>
   by_cases hi:i = id
   ·subst hi;simp only [bk,if_pos] at h2;exact ⟨_,_,_,Ev.block_exit h1,h2⟩
   ·simp only [bk,if_neg hi] at h2;exact ⟨_,_,_,Ev.block_on h1 (by simpa using hi),h2⟩
  | ret=>exact ⟨_,_,_,Ev.block_ret h1,h2⟩
 | scope b ih=>
  intro x F H Q h
  obtain ⟨e,F',H',h1,h2⟩:=ih h;exact ⟨e,F',H',Ev.scope h1,h2⟩
 | _=>intro x F H Q h;exact h
theorem b1x:∀ {c:Code} {x:Cx} {F:Frm} {H:a06} {Q Q':b0a},Wp x c F H Q → (∀ e F H,Q e F H → Q' e F H) → Wp x c F H Q':=by
 intro c
 induction c with
 | skip=>intro x F H Q Q' h hq;exact hq _ _ _ h
 | label l=>intro x F H Q Q' h hq;exact hq _ _ _ h
 | exit i=>intro x F H Q Q' h hq;exact hq _ _ _ h
 | ret=>intro x F H Q Q' h hq;exact hq _ _ _ h
 | seq a b iha ihb=>
  intro x F H Q Q' h hq
  refine iha (Q:=sq x b Q) (Q':=sq x b Q') h ?_
  intro e F H h
  cases e with
  | normal=>exact ihb (x:=x) h hq
  | exit id=>exact hq _ _ _ h
  | ret=>exact hq _ _ _ h
 | block id b ih=>
  intro x F H Q Q' h hq
  refine ih (Q:=bk id Q) (Q':=bk id Q') h ?_
  intro e F H h
  cases e with
  | normal=>exact hq _ _ _ h
  | exit i=>
   simp only [bk] at h ⊢
   split
   ·rename_i hi;rw [if_pos hi] at h;exact hq _ _ _ h
   ·rename_i hi;rw [if_neg hi] at h;exact hq _ _ _ h
  | ret=>exact hq _ _ _ h
 | scope b ih=>intro x F H Q Q' h hq;exact ih (x:=x) h hq
 | _=>intro x F H Q Q' h hq;obtain ⟨e,F',H',h1,h2⟩:=h;exact ⟨e,F',H',h1,hq _ _ _ h2⟩
section
variable {x:Cx} {F F1:Frm} {H H1:a06} {Q:b0a}
theorem xs {E:Env} {M:List Fact} {m N:Nat} {g:FuncId} {cur:Nat} {id ops draw} {log:List LogE} (h:a8q E draw N (sem E M) ops.toList ops.toList [] F H = some (F1,H1,log)) (hl:(!draw || logOk ops.toList log.length log) = true) (hq:Q .normal F1 H1):Wp (cx E M m N g cur) (.region id ops draw) F H Q:=⟨_,_,_,Ev.region h hl,hq⟩
theorem xI {E:Env} {M:List Fact} {m N:Nat} {g:FuncId} {cur:Nat} {c a b t} (hc:opv E F c = .bool t) (h:Wp (cx E M m N g cur) (bif t then a else b) F H Q):Wp (cx E M m N g cur) (.cond c a b) F H Q:=by
 cases t
 ·obtain ⟨e,F',H',h1,h2⟩:=c4x _ h;exact ⟨e,F',H',Ev.cond_f hc h1,h2⟩
 ·obtain ⟨e,F',H',h1,h2⟩:=c4x _ h;exact ⟨e,F',H',Ev.cond_t hc h1,h2⟩
theorem xT {a b} (h:Wp x a F H Q):Wp x (bif true then a else b) F H Q:=h
theorem xF {a b} (h:Wp x b F H Q):Wp x (bif false then a else b) F H Q:=h
theorem d3l {E:Env} {M:List Fact} {m N:Nat} {g:FuncId} {cur:Nat} {keep:List Nat} {b:Code} (hk:E.keep g cur = keep) (J:Nat → Frm → a06 → Prop) (n0:Nat) (h0:∃ F1 H1,gcD m keep F H = some (F1,H1) ∧ J n0 F1 H1)
 (h:∀ n F1 H1,J n F1 H1 → Wp (cx E M m N g cur) b F1 H1 (lpJ m keep J n Q)):∃ r:AExit × Frm × a06,Q r.1 r.2.1 r.2.2 ∧ EvL (cx E M m N g cur) b F H r:=by
 subst hk
 have key:∀ n F H F1 H1,gcD m (E.keep g cur) F H = some (F1,H1) → J n F1 H1 → ∃ r:AExit × Frm × a06,Q r.1 r.2.1 r.2.2 ∧ EvL (cx E M m N g cur) b F H r:=by
  intro n
  induction n using Nat.strongRecOn with
  | ind n ih=>
   intro F H F1 H1 hg hJ
   obtain ⟨e,F',H',h1,h2⟩:=c4x _ (h n F1 H1 hJ)
   cases e with
   | normal=>
    obtain ⟨F2,H2,n',g1,g2,g3⟩:=h2
    obtain ⟨r,hr,hl⟩:=ih n' g2 F' H' F2 H2 g1 g3
    exact ⟨r,hr,EvL.again (x:=cx E M m N g cur) hg h1 hl⟩
   | exit id=>exact ⟨(_,_,_),h2,EvL.leave (x:=cx E M m N g cur) hg h1 (fun h=>by cases h)⟩
   | ret=>exact ⟨(_,_,_),h2,EvL.leave (x:=cx E M m N g cur) hg h1 (fun h=>by cases h)⟩
 obtain ⟨F1,H1,hg,hJ⟩:=h0
 exact key n0 F H F1 H1 hg hJ
theorem a24 {E:Env} {M:List Fact} {m N:Nat} {g:FuncId} {cur:Nat} {keep:List Nat} {b:Code} (hk:E.keep g cur = keep) (J:Nat → Frm → a06 → Prop) (n0:Nat) (h0:∃ F1 H1,gcD m keep F H = some (F1,H1) ∧ J n0 F1 H1)
 (h:∀ n F1 H1,J n F1 H1 → Wp (cx E M m N g cur) b F1 H1 (lpJ m keep J n Q)) (hz:c9i keep = false:=by rfl):Wp (cx E M m N g cur) (.loop b) F H Q:=by
 obtain ⟨⟨e,F',H'⟩,hr,hl⟩:=d3l hk J n0 h0 h
 exact ⟨e,F',H',Ev.loop (by rw [← hk] at hz;exact hz) hl,hr⟩
def fz (m:Nat) (Q:b0a):b0a:=fun e F H=>Q e (c0d m H F) (c0c m H)
theorem e06 {E:Env} {M:List Fact} {m N:Nat} {g:FuncId} {cur:Nat} {keep:List Nat} {b:Code} (hk:E.keep g cur = keep) (hz:c9i keep = true) (J:Nat → Frm → a06 → Prop) (n0:Nat) (h0:∃ F1 H1,gcD m keep F H = some (F1,H1) ∧ J n0 F1 H1)
 (h:∀ n F1 H1,J n F1 H1 → Wp (cx E M m N g cur) b F1 H1 (lpJ m keep J n (fz m Q))):Wp (cx E M m N g cur) (.loop b) F H Q:=by
 obtain ⟨⟨e,F',H'⟩,hr,hl⟩:=d3l hk J n0 h0 h
 exact ⟨e,_,_,Ev.loopZ (x:=cx E M m N g cur) (by rw [← hk] at hz;exact hz) hl,hr⟩
theorem a0l {E:Env} {M:List Fact} {m N:Nat} {g:FuncId} {cur:Nat} {keep:List Nat} {b:Code} (hk:E.keep g cur = keep) {σ:Type} (Fs:σ → Frm) (Hs:σ → a06) (meas:σ → Nat) (Inv:σ → Prop) (s0:σ) (h0:gcD m keep F H = some (Fs s0,Hs s0)) (hi:Inv s0)
 (h:∀ s,Inv s → Wp (cx E M m N g cur) b (Fs s) (Hs s) (lp m keep Fs Hs meas Inv (meas s) Q)) (hz:c9i keep = false:=by rfl):Wp (cx E M m N g cur) (.loop b) F H Q:=by
 refine a24 hk (fun n F1 H1=>∃ s,F1 = Fs s ∧ H1 = Hs s ∧ n = meas s ∧ Inv s) (meas s0) ⟨_,_,h0,s0,rfl,rfl,rfl,hi⟩ ?_ hz
 rintro n F1 H1 ⟨s,rfl,rfl,rfl,hs⟩
 refine b1x (h s hs) ?_
 intro e F' H' h2
 cases e with
 | normal=>obtain ⟨s',g1,g2,g3⟩:=h2;exact ⟨_,_,_,g1,g2,s',rfl,rfl,rfl,g3⟩
 | exit id=>exact h2
 | ret=>exact h2
theorem a1c {E:Env} {M:List Fact} {m N:Nat} {g:FuncId} {cur:Nat} {keep:List Nat} (hk:E.keep g cur = keep) {b:Code} {σ:Type} (Fs:σ → Frm) (Hs:σ → a06) (meas:σ → Nat) (Inv:σ → Prop) (s0:σ) (h0:gcD m keep F H = some (Fs s0,Hs s0)) (hi:Inv s0)
 (_:∀ s,Inv s → gcD m keep (Fs s) (Hs s) = some (Fs s,Hs s)) (h:∀ s,Inv s → Wp (cx E M m N g cur) b (Fs s) (Hs s) (lp m keep Fs Hs meas Inv (meas s) Q)) (hz:c9i keep = false:=by rfl):Wp (cx E M m N g cur) (.loop b) F H Q:=a0l hk Fs Hs meas Inv s0 h0 hi h hz
theorem a12 {m:Nat} {keep:List Nat} {J:Nat → Frm → a06 → Prop} {n:Nat} (n':Nat) (hn:n' < n) (h:∃ F1 H1,gcD m keep F H = some (F1,H1) ∧ J n' F1 H1):lpJ m keep J n Q .normal F H:=by
 obtain ⟨F1,H1,h1,h2⟩:=h;exact ⟨F1,H1,n',h1,hn,h2⟩
theorem a1m {σ:Type} {m:Nat} {keep:List Nat} {Fs:σ → Frm} {Hs:σ → a06} {meas:σ → Nat} {Inv:σ → Prop} {n:Nat} (s:σ) (h1:gcD m keep F H = some (Fs s,Hs s)) (h2:meas s < n) (h3:Inv s):lp m keep Fs Hs meas Inv n Q .normal F H:=⟨s,h1,h2,h3⟩
end
theorem e0n {E:Env} {M:List Fact} {g:FuncId} {args:List AV} {H:a06} {code:Code} {N:Nat} {results:List ResultVar} {r:AV × a06}
 (hfn:E.fn g = some ⟨code,N,results⟩) (hno:∀ y ∈ M,y.g ≠ g) (hN:Nat.ble args.length N = true) {m:Nat} (hm:H.length = m) (h:Wp (cx E M m N g 0) code (a3n 0 args) H (fq E g m results r)):sem E M g args H = some r:=by
 subst hm
 obtain ⟨e,F',H',h1,h2⟩:=c4x _ h
 obtain ⟨v,H2⟩:=r
 cases e with
 | normal=>obtain ⟨vs,h3,h4⟩:=h2;exact c14 hfn hno hN h1 (fun _ h=>by cases h) h3 h4
 | ret=>obtain ⟨vs,h3,h4⟩:=h2;exact c14 hfn hno hN h1 (fun _ h=>by cases h) h3 h4
 | exit id=>exact h2.elim
theorem xa {E:Env} {M:List Fact} {m N:Nat} {g:FuncId} {cur:Nat} {c:Code} {F F1:Frm} {H H1:a06} {log:List LogE} {t:Bool} {Q:b0a} (h:hs E M N c F H F1 H1 log t) (hl:sd c log = true) (k:ct (cx E M m N g cur) c t F1 H1 Q):Wp (cx E M m N g cur) c F H Q:=by
 cases c with
 | region id ops draw=>exact xs (congrArg Prod.fst h) hl k
 | cond c a b=>
  have h1:opv E F c = .bool t:=d6o (congrArg Prod.fst h)
  have h2:(F,H,([]:List LogE)) = (F1,H1,log):=congrArg Prod.snd h
  cases h2
  exact xI h1 k
 | _=>exact k.elim
theorem gS:(∀ a b:Code,(some a).getD b = a) ∧ (∀ l:List ResultVar,(List.toArray l).toList = l):=⟨fun _ _=>rfl,fun _=>rfl⟩
def AExit.fin:AExit → Bool
 | .exit _=>false
 | _=>true
@[go_sem] theorem f2o:AExit.ret.fin = true:=by rfl
@[go_sem] theorem f2p:AExit.normal.fin = true:=by rfl
theorem fqb {E:Env} {g:FuncId} {m:Nat} {results:List ResultVar} {r:AV × a06} {e:AExit} {F:Frm} {H:a06} (h:(bif e.fin then a0j (a1b E F H results) fun vs=>a2a (E.thaw g) m (a45 vs) H else none) = some r):fq E g m results r e F H:=by
 cases ha:a1b E F H results with
 | none=>rw [ha] at h;cases e<;>cases h
 | some vs=>
  rw [ha] at h
  cases e with
  | exit i=>cases h
  | _=>exact ⟨vs,ha,h⟩
theorem sv {E:Env} {M:List Fact} {g:FuncId} {args:List AV} {H:a06} {r:AV × a06} (f:Func) (h:Wp (cx E M H.length f.ntmps g 0) (f.body.getD .skip) (a3n 0 args) H (fq E g H.length f.results.toList r)) (hfn:E.fn g = some ⟨f.body.getD .skip,f.ntmps,f.results.toList⟩:=by kernel_rfl)
 (hno:(M.all fun y=>!Nat.beq y.g g) = true:=by rfl) (hN:Nat.ble args.length f.ntmps = true:=by rfl):sem E M g args H = some r:=e0n hfn (fun y hy e=>by
 have:=List.all_eq_true.1 hno y hy
 rw [e] at this
 simp at this) hN rfl h
end Go.Ax
/- AxTyp: d52 abstract values, taken apart. -/
namespace Go.Ax
section
variable {E:Env} {n:Nat} {t e:TypeId} {avs:List AV}
theorem a6h {α:Type} {f:α → List AV} {P:α → Prop} (hs:slT E t = some e) (he:∀ r,Typ E n e r → ∃ x,P x ∧ r = f x) (h:Typ E (n + 1) t avs) :
 ∃ (c:Option (Option Nat)) (l:List α),avs = [sl c (l.map f)] ∧ l.length ≤ maxLen ∧ ∀ x ∈ l,P x:=by
 simp only [Typ,a3a.1 hs] at h
 rcases h with rfl|⟨rows,cap,rfl,h1,h2,h3⟩
 ·exact ⟨none,[],rfl,by simp,by simp⟩
 ·have key:∀ rows:List (List AV),(∀ r ∈ rows,r.length = E.sz e ∧ Typ E n e r) → ∃ l:List α,rows = l.map f ∧ ∀ x ∈ l,P x:=by
   intro rows
   induction rows with
   | nil=>intro _;exact ⟨[],rfl,by simp⟩
   | cons r rs ih=>
    intro hh
    obtain ⟨x,hx,rfl⟩:=he r (hh r (by simp)).2
    obtain ⟨l,rfl,hl⟩:=ih (fun r hr=>hh r (by simp [hr]))
    refine ⟨x :: l,rfl,?_⟩
    intro y hy
    simp only [List.mem_cons] at hy
    rcases hy with rfl|hy
    ·exact hx
    ·exact hl y hy
  obtain ⟨l,rfl,hl⟩:=key rows h3
  exact ⟨some (some cap),l,by rw [a2v],by simpa using Nat.le_trans h1 h2,hl⟩
theorem d53 {k:IntKind} (hk:c4q E t = some k) (h:Typ E (n + 1) t avs):∃ i,avs = [.int k i] ∧ (Lit.int k i).wf = true:=by
 simpa only [Typ,c1u hk] using h
theorem a3u (hk:c4q E t = some .u8) (h:Typ E (n + 1) t avs):∃ i:Nat,avs = [.int .u8 i] ∧ i < 256:=by
 obtain ⟨i,h1,h2⟩:=d53 hk h
 simp only [Lit.wf,Bool.and_eq_true,decide_eq_true_eq] at h2
 have e1:IntKind.u8.min = 0:=by rfl
 have e2:IntKind.u8.max = 255:=by rfl
 rw [e1,e2] at h2
 exact ⟨i.toNat,by rw [h1,Int.toNat_of_nonneg h2.1],by omega⟩
theorem b5l (hb:E.und t = some .bool) (h:Typ E (n + 1) t avs):∃ b,avs = [.bool b]:=by simpa only [Typ,hb] using h
def a99 (E:Env) (t:TypeId):Option (List TypeId):=match E.und t with|some (.struct fs)=>some (fs.toList.map (·.type))|_=>none
def c2p (E:Env) (n:Nat):List TypeId → List AV → Prop
 | [],avs=>avs = []
 | t :: ts,avs=>∃ p r,avs = p ++ r ∧ Typ E n t p ∧ c2p E n ts r
theorem a6g {ts:List TypeId} (hf:a99 E t = some ts) (h:Typ E (n + 1) t avs):c2p E n ts avs:=by
 unfold a99 at hf
 split at hf
 case h_2=>cases hf
 rename_i fs hu
 cases hf
 simp only [Typ,hu] at h
 obtain ⟨parts,rfl,h1,h2⟩:=h
 have key:∀ (fs:List Field) (parts:List (List AV)),parts.length = fs.length → (∀ (i:Nat) f p,fs[i]? = some f → parts[i]? = some p → p.length = E.sz f.type ∧ Typ E n f.type p) → c2p E n (fs.map (·.type)) parts.flatten:=by
  intro fs
  induction fs with
  | nil=>intro parts hl _;have:=List.length_eq_zero_iff.1 hl;subst this;rfl
  | cons f fs ih=>
   intro parts hl hh
   cases parts with
   | nil=>simp at hl
   | cons p parts=>
    exact ⟨p,parts.flatten,by simp,(hh 0 f p rfl rfl).2,ih parts (by simpa using hl) (fun i f p hf hp=>hh (i + 1) f p (by simpa using hf) (by simpa using hp))⟩
 exact key fs.toList parts h1 h2
theorem b1y {m:Nat} (hf:c0o E t = some (m,e)) (h:Typ E (n + 1) t avs):c2p E n (List.replicate m e) avs:=by
 unfold c0o at hf
 split at hf
 case h_2=>cases hf
 rename_i m' e' hu
 cases hf
 simp only [Typ,hu] at h
 obtain ⟨parts,rfl,h1,h2⟩:=h
 subst h1
 clear hu
 induction parts with
 | nil=>rfl
 | cons p parts ih=>
  simp only [List.length_cons,List.replicate_succ]
  exact ⟨p,parts.flatten,by simp,(h2 p (by simp)).2,ih (fun q hq=>h2 q (by simp [hq]))⟩
theorem c9v {a:AV} (hg:a6y E t = some true) (h:e03 E n t a):∃ avs,a = .agg avs ∧ Typ E n t avs:=by
 unfold e03 at h
 unfold a6y at hg
 cases hu:E.und t with
 | none=>rw [hu] at h;exact h.elim
 | some d=>
  rw [hu] at h hg
  simp only [Option.map_some,Option.some.injEq] at hg
  simpa [hg] using h
end
end Go.Ax
