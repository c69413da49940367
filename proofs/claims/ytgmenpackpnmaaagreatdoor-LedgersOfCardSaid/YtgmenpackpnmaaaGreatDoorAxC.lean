/- AxSame: values and objects, compared. -/
import Derived.Test.YtgmenpackpnmaaaGreatDoorAxA
import Derived.Test.YtgmenpackpnmaaaGreatDoorAxB
import Derived.Lib.Bytealg
import Derived.Orders
import Derived.Scope
set_option linter.unusedSimpArgs false
set_option linter.unusedVariables false
namespace Go.Ax
mutual
def b0w:AV → AV → Bool
 | .junk,.junk=>true
 | .bool a,.bool b=>a == b
 | .int k a,.int k' b=>decide (k = k') && decide (a = b)
 | .str a,.str b=>decide (a = b)
 | .nilptr,.nilptr=>true
 | .nilslice,.nilslice=>true
 | .nilmap,.nilmap=>true
 | .nilfunc,.nilfunc=>true
 | .nilifc,.nilifc=>true
 | .ptr a b c,.ptr d e f=>decide (a = d) && (decide (b = e) && decide (c = f))
 | .iptr a,.iptr b=>a85 a b
 | .slice a b c d,.slice e f g h=>decide (a = e) && (decide (b = f) && (decide (c = g) && decide (d = h)))
 | .islice r c,.islice s d=>b6h r s && decide (c = d)
 | .map a,.map b=>decide (a = b)
 | .imap a b c d,.imap e f g h=>a85 a e && (a85 b f && (decide (c = g) && decide (d = h)))
 | .func f a b,.func g c d=>decide (f = g) && (a85 a c && a85 b d)
 | .iface t x,.iface u y=>decide (t = u) && b0w x y
 | .agg a,.agg b=>a85 a b
 | .tuple a,.tuple b=>a85 a b
 | _,_=>false
def a85:List AV → List AV → Bool
 | [],[]=>true
 | x :: xs,y :: ys=>b0w x y && a85 xs ys
 | _,_=>false
def b6h:List (List AV) → List (List AV) → Bool
 | [],[]=>true
 | x :: xs,y :: ys=>a85 x y && b6h xs ys
 | _,_=>false
end
mutual
theorem c29:∀ (a b:AV),b0w a b = true → a = b
 | a,b,h=>by
  cases a<;>cases b<;>simp only [b0w,Bool.and_eq_true,decide_eq_true_eq,beq_iff_eq,Bool.false_eq_true] at h
  case junk.junk=>rfl
  case bool.bool=>rw [h]
  case int.int=>rw [h.1,h.2]
  case str.str=>rw [h]
  case nilptr.nilptr=>rfl
  case nilslice.nilslice=>rfl
  case nilmap.nilmap=>rfl
  case nilfunc.nilfunc=>rfl
  case nilifc.nilifc=>rfl
  case ptr.ptr=>rw [h.1,h.2.1,h.2.2]
  case iptr.iptr=>rw [a43 _ _ h]
  case slice.slice=>rw [h.1,h.2.1,h.2.2.1,h.2.2.2]
  case islice.islice=>rw [b6g _ _ h.1,h.2]
  case map.map=>rw [h]
  case imap.imap=>rw [a43 _ _ h.1,a43 _ _ h.2.1,h.2.2.1,h.2.2.2]
  case func.func=>rw [h.1,a43 _ _ h.2.1,a43 _ _ h.2.2]
  case iface.iface=>rw [h.1,c29 _ _ h.2]
  case agg.agg=>rw [a43 _ _ h]
  case tuple.tuple=>rw [a43 _ _ h]
theorem a43:∀ (a b:List AV),a85 a b = true → a = b
 | [],[],_=>rfl
 | x :: xs,y :: ys,h=>by
  simp only [a85,Bool.and_eq_true] at h
  rw [c29 x y h.1,a43 xs ys h.2]
 | [],_ :: _,h=>by simp [a85] at h
 | _ :: _,[],h=>by simp [a85] at h
theorem b6g:∀ (a b:List (List AV)),b6h a b = true → a = b
 | [],[],_=>rfl
 | x :: xs,y :: ys,h=>by
  simp only [b6h,Bool.and_eq_true] at h
  rw [a43 x y h.1,b6g xs ys h.2]
 | [],_ :: _,h=>by simp [b6h] at h
 | _ :: _,[],h=>by simp [b6h] at h
end
mutual
theorem b52:∀ (a:AV),b0w a a = true
 | .junk|.bool _|.int _ _|.str _|.nilptr|.nilslice|.nilmap|.nilfunc|.nilifc|.ptr _ _ _|.slice _ _ _ _|.map _=>by simp [b0w]
 | .iptr a=>by simp only [b0w];exact a2y a
 | .islice r c=>by simp only [b0w,b0x r,decide_true,Bool.and_self]
 | .imap a b c d=>by simp only [b0w,a2y a,a2y b,decide_true,Bool.and_self]
 | .func f a b=>by simp only [b0w,a2y a,a2y b,decide_true,Bool.and_self]
 | .iface t x=>by simp only [b0w,b52 x,decide_true,Bool.and_self]
 | .agg a=>by simp only [b0w];exact a2y a
 | .tuple a=>by simp only [b0w];exact a2y a
theorem a2y:∀ (a:List AV),a85 a a = true
 | []=>rfl
 | x :: xs=>by simp only [a85,b52 x,a2y xs,Bool.and_self]
theorem b0x:∀ (a:List (List AV)),b6h a a = true
 | []=>rfl
 | x :: xs=>by simp only [b6h,a2y x,b0x xs,Bool.and_self]
end
def b8d:Option AObj → Option AObj → Bool
 | none,none=>true
 | some (.row k r),some (.row l s)=>decide (k = l) && b6h r s
 | some (.map a b c d),some (.map e f g h)=>a85 a e && (a85 b f && (decide (c = g) && decide (d = h)))
 | some (.siter s p),some (.siter t q)=>decide (s = t) && decide (p = q)
 | _,_=>false
theorem d1u (a b:Option AObj) (h:b8d a b = true):a = b:=by
 unfold b8d at h
 split at h
 ·rfl
 ·simp only [Bool.and_eq_true,decide_eq_true_eq] at h;rw [h.1,b6g _ _ h.2]
 ·simp only [Bool.and_eq_true,decide_eq_true_eq] at h;rw [a43 _ _ h.1,a43 _ _ h.2.1,h.2.2.1,h.2.2.2]
 ·simp only [Bool.and_eq_true,decide_eq_true_eq] at h;rw [h.1,h.2]
 ·cases h
@[go_sem] theorem e13 (a:Option AObj):b8d a a = true:=by
 cases a with
 | none=>rfl
 | some o=>cases o with
  | row k r=>simp only [b8d,b0x,decide_true,Bool.and_self]
  | map a b c d=>simp only [b8d,a2y,decide_true,Bool.and_self]
  | siter s p=>simp only [b8d,decide_true,Bool.and_self]
end Go.Ax
/- AxRun: the evaluator: operations in a row, statements, calls. Definitions only. -/
namespace Go.Ax
def a02 (H:a05):FHeap:=fun b=>(H[b]?).join
def b0h (H:a05):Eff → a05
 | .none=>H
 | .new o=>H ++ [some o]
 | .set b o=>H.set b (some o)
 | .kill b o=>H.set b none ++ [some o]
/-! ### what a value refers to -/
mutual
def refs:AV → List Nat
 | .ptr b _ _=>[b]
 | .slice b _ _ _=>[b]
 | .map b=>[b]
 | .func _ fs cs=>a0e fs ++ a0e cs
 | .iface _ x=>refs x
 | .agg cs=>a0e cs
 | .tuple cs=>a0e cs
 | .junk|.bool _|.int ..|.str _|.nilptr|.nilslice|.nilmap|.nilfunc|.nilifc|.iptr _|.islice ..|.imap ..=>[]
def a0e:List AV → List Nat
 | []=>[]
 | v :: vs=>refs v ++ a0e vs
end
def a0w:Option AObj → List Nat
 | some (.row _ rows)=>rows.flatMap a0e
 | some (.map ks vs _ _)=>a0e ks ++ a0e vs
 | _=>[]
def a1h:List Nat → Nat → Bool
 | [],_=>false
 | a :: r,x=>bif Nat.beq a x then true else a1h r x
theorem a2t {l:List Nat} {x:Nat}:a1h l x = true ↔ x ∈ l:=by
 induction l with
 | nil=>simp [a1h]
 | cons a r ih=>
  simp only [a1h,c2p,cond_eq_ite,List.mem_cons]
  by_cases h:a = x
  ·simp [h]
  ·simp only [beq_eq_false_iff_ne.2 h,Bool.false_eq_true,if_false,ih]
   exact ⟨.inr,fun h'=>h'.resolve_left (fun e=>h e.symm)⟩
def a2p (H:a05):Nat → List Nat → List Nat → List Nat
 | 0,_,acc=>acc.reverse
 | _ + 1,[],acc=>acc.reverse
 | n + 1,b :: todo,acc=>bif a1h acc b then a2p H n todo acc else a2p H n (a0w (a02 H b) ++ todo) (b :: acc)
def a53:Nat:=1000000
/-! ### renaming a heap -/
def a59 (σ:List Nat):Nat → Option Nat:=fun b=>σ.idxOf? b
def a1y (H:a05) (σ:List Nat) (π:Nat → Option Nat):a05:=σ.map fun b=>(a02 H b).map (a0v π)
def a1d (σ:List Nat) (n:Nat):Nat → Option Nat:=fun j=>bif Nat.blt j σ.length then σ[j]? else some (n + (j - σ.length))
def a0x (σ:List Nat) (n:Nat) (H1:a05):Nat → a05 → a05
 | _,[]=>[]
 | b,o :: r=>(match σ.idxOf? b with
  | some j=>(a02 H1 j).map (a0v (a1d σ n))
  | none=>o) :: a0x σ n H1 (b + 1) r
def a5f:List Nat → Bool
 | []=>true
 | b :: r=>!(a1h r b) && a5f r
def a35 (run:List AV → a05 → Option (AV × a05)) (args:List AV) (H:a05):Option (AV × a05 × List Nat):=
 let σ:=a2p H a53 (a0e args) []
 bif a5f σ && σ.all (fun b=>Nat.blt b H.length) then
  match run (args.map (ren (a59 σ))) (a1y H σ (a59 σ)) with
  | some (v,H1)=>some (ren (a1d σ H.length) v,a0x σ H.length H1 0 H ++ (H1.drop σ.length).map (Option.map (a0v (a1d σ H.length))),σ)
  | none=>none
 else none
def e95 (args:List AV):Option AV:=
 match args with
 | [.str s,.int .u8 c]=>some (.int .i64 (Lib.indexByte s c.toNat.toUInt8))
 | _=>none
def a0c (E:Env) (draw:Bool) (call:FuncId → List AV → a05 → Option (AV × a05)) (f:AV) (args:List AV) (H:a05):Option (AV × a05 × List Nat):=
 match f with
 | .func (.func g) fs cs=>bif E.ext g then match e95 (fs ++ args ++ cs) with
  | some v=>some (v,H,[])
  | none=>none
  else bif (E.fn g).isSome then
   match a35 (call g) (fs ++ args ++ cs) H with
   | some (v,H',σ)=>bif draw && !(Nat.beq H'.length H.length || Nat.beq H'.length (H.length + 1)) then none else some (v,H',σ)
   | none=>none
  else none
 | _=>none
/-! ### operations in a row -/
structure LogE where
 needs:List Nat
 keys:List Nat
def Eff.keys (n:Nat):Eff → List Nat
 | .none=>[]
 | .new _=>[n]
 | .set b _=>[b]
 | .kill b _=>[b,n]
def Eff.fits (n:Nat):Eff → Bool
 | .set b _=>Nat.blt b n
 | .kill b _=>Nat.blt b n
 | _=>true
def a0t:AV → List Nat
 | .ptr b _ _=>[b]
 | .slice b _ _ _=>[b]
 | .map b=>[b]
 | _=>[]
def a7c (op:Op) (v:Operand → AV):List Nat:=
 match op with
 | .load _ a=>a0t (v a)
 | .store _ a _=>a0t (v a)
 | .convert _ _ x=>a0t (v x)
 | .slice _ x _ _ _=>a0t (v x)
 | .indexAddr _ x _=>a0t (v x)
 | .lookup _ m _ _=>a0t (v m)
 | .mapUpdate _ m _ _=>a0t (v m)
 | .insert _ m _ _=>a0t (v m)
 | .mapEntry _ m _=>a0t (v m)
 | .entryStore _ m _ _=>a0t (v m)
 | .next it _=>a0t (v it)
 | .call { callee:=.builtin _,args,.. }=>args.toList.flatMap fun x=>a0t (v x)
 | _=>[]
def a9w (E:Env) (f:AV) (H H':a05) (σ:List Nat):Bool:=match f with
 | .func (.func g) _ _=>E.ro g && σ.all fun b=>b8d (a02 H b) (a02 H' b)
 | _=>false
def b93 (ro:Bool) (σ:List Nat) (n n':Nat):List Nat:=bif Nat.beq n' n then (bif ro then [] else σ) else σ ++ [n]
def a11 (E:Env) (draw:Bool) (call:FuncId → List AV → a05 → Option (AV × a05)) (F:Frm) (H:a05) (op:Op):Option (AV × a05 × LogE):=
 match op with
 | .call { callee:=.value f,args,.. }=>match a0c E draw call (opv E F f) (args.toList.map (opv E F)) H with
  | some (v,H',σ)=>some (v,H',⟨σ,b93 (a9w E (opv E F f) H H' σ) σ H.length H'.length⟩)
  | none=>none
 | op=>match aop E H.length (a02 H) op (opv E F) with
  | some (v,e)=>bif e.fits H.length then some (v,b0h H e,⟨a7c op (opv E F),e.keys H.length⟩) else none
  | none=>none
def a79 (N:Nat):Option Tmp → Bool
 | none=>true
 | some d=>Nat.blt d N
def b34 (a b:List Nat):Bool:=a.any fun x=>a1h b x
def LogE.clash (x y:LogE):Bool:=b34 x.keys y.needs || b34 x.keys y.keys || b34 x.needs y.keys
def b07 (all:List Oper) (i:Nat):Nat → Nat → Bool
 | 0,_=>false
 | n + 1,j=>match all[j]? with
  | some o=>o.after.toList.any fun e=>Region.binds .any e && (e.on == i || b07 all i n e.on)
  | none=>false
def d64 (all:List Oper) (i j:Nat):Bool:=
 match all[j]? with
 | some o=>o.after.toList.any fun e=>Region.binds .any e && e.on == i
 | none=>false
def a46 (all:List Oper) (i j:Nat):Bool:=d64 all i j || b07 all i all.length j
def logOk (all:List Oper):Nat → List LogE → Bool
 | _,[]=>true
 | 0,_ :: _=>false
 | j + 1,y :: rest=>logRow all j y j rest && logOk all j rest
 where logRow (all:List Oper) (j:Nat) (y:LogE):Nat → List LogE → Bool
 | _,[]=>true
 | 0,_ :: _=>false
 | i + 1,x :: rest=>(!(x.clash y) || a46 all i j) && logRow all j y i rest
def a2x (all:List Oper) (j:Nat):Option Nat:=(all[j]?).bind (·.dst)
def a2j (E:Env) (draw:Bool) (N:Nat) (call:FuncId → List AV → a05 → Option (AV × a05)) (all:List Oper) {R:Type} :
 List Oper → List LogE → Frm → a05 → (Frm → a05 → Option R) → Option R
 | [],log,F,H,k=>bif !draw || logOk all log.length log then k F H else none
 | o :: rest,log,F,H,k=>
  bif a79 N o.dst then
   match o.guard with
   | none=>match a11 E draw call F H o.op with
    | some (v,H',l)=>a2j E draw N call all rest (l :: log) (a3q F o.dst v) H' k
    | none=>none
   | some (j,want)=>match a2x all j with
    | none=>none
    | some d=>match a4d F d with
     | .bool b=>bif b then
      (bif want then match a11 E draw call (a3q F (some d) (.bool true)) H o.op with
       | some (v,H',l)=>a2j E draw N call all rest (l :: log) (a3q (a3q F (some d) (.bool true)) o.dst v) H' k
       | none=>none
      else a2j E draw N call all rest (⟨[],[]⟩ :: log) (a3q (a3q F (some d) (.bool true)) o.dst (.tuple [])) H k)
      else
       (bif want then a2j E draw N call all rest (⟨[],[]⟩ :: log) (a3q (a3q F (some d) (.bool false)) o.dst (.tuple [])) H k
       else match a11 E draw call (a3q F (some d) (.bool false)) H o.op with
        | some (v,H',l)=>a2j E draw N call all rest (l :: log) (a3q (a3q F (some d) (.bool false)) o.dst v) H' k
        | none=>none)
     | .tuple []=>a2j E draw N call all rest (⟨[],[]⟩ :: log) (a3q F o.dst (.tuple [])) H k
     | _=>none
  else none
/-! ### statements -/
inductive AExit where
 | normal
 | exit (id:Nat)
 | ret
def a1q (keep:List Nat) (F:Frm):Frm:=keep.map fun s=>(s,a4d F s)
def b19 (m0:Nat) (F:Frm) (H:a05):List Nat:=
 (a2p H a53 ((H.take m0).flatMap a0w ++ a0e (F.map (·.2))) []).filter fun b=>Nat.ble m0 b
def b79 (m0:Nat) (σ:List Nat):Nat → Option Nat:=fun b=>bif Nat.blt b m0 then some b else (σ.idxOf? b).map (m0 + ·)
def c0c (π:Nat → Option Nat) (F:Frm):Frm:=F.map fun x=>(x.1,ren π x.2)
def gcH (m0:Nat) (σ:List Nat) (H:a05):a05:=(H.take m0).map (Option.map (a0v (b79 m0 σ))) ++ a1y H σ (b79 m0 σ)
def b1y (m0:Nat) (keep:List Nat) {R:Type} (body:Frm → a05 → (AExit → Frm → a05 → Option R) → Option R):Nat → Frm → a05 → (AExit → Frm → a05 → Option R) → Option R
 | 0,_,_,_=>none
 | n + 1,F,H,k=>
  let F1:=a1q keep F
  let σ:=b19 m0 F1 H
  bif a5f σ && σ.all (fun b=>Nat.ble m0 b) && Nat.ble m0 H.length then
   body (c0c (b79 m0 σ) F1) (gcH m0 σ H) fun e F' H'=>match e with
    | .normal=>b1y m0 keep body n F' H' k
    | e=>k e F' H'
  else none
def d97 (keep:List Nat):Bool:=keep.any fun s=>Nat.beq s 1000000
def e84 (m:Nat) (H:a05) (v:AV):AV:=match a4z m true (a94 (a02 H) m 12) v with
 | some v'=>v'
 | none=>.junk
def d13 (m:Nat) (H:a05) (F:Frm):Frm:=F.map fun x=>(x.1,e84 m H x.2)
def c9a (m:Nat) (H:a05):a05:=(H.take m).map (Option.map (a0v (a1k m)))
def a6o (E:Env) (m0 N:Nat) (keep:Nat → List Nat) (call:FuncId → List AV → a05 → Option (AV × a05)) (lf:Nat) {R:Type} :
 Nat → Code → Frm → a05 → (AExit → Frm → a05 → Option R) → Option R
 | _,.skip,F,H,k=>k .normal F H
 | _,.label _,F,H,k=>k .normal F H
 | _,.region _ ops draw,F,H,k=>a2j E draw N call ops.toList ops.toList [] F H fun F' H'=>k .normal F' H'
 | cur,.seq a b,F,H,k=>a6o E m0 N keep call lf cur a F H fun e F' H'=>match e with
  | .normal=>a6o E m0 N keep call lf cur b F' H' k
  | e=>k e F' H'
 | cur,.cond c x y,F,H,k=>match opv E F c with
  | .bool t=>bif t then a6o E m0 N keep call lf cur x F H k else a6o E m0 N keep call lf cur y F H k
  | _=>none
 | _,.block id b,F,H,k=>a6o E m0 N keep call lf id b F H fun e F' H'=>match e with
  | .exit id'=>bif id' == id then k .normal F' H' else k (.exit id') F' H'
  | e=>k e F' H'
 | cur,.loop b,F,H,k=>b1y m0 (keep cur) (fun F H k=>a6o E m0 N keep call lf cur b F H k) lf F H fun e F' H'=>bif d97 (keep cur) then k e (d13 m0 H' F') (c9a m0 H') else k e F' H'
 | cur,.scope b,F,H,k=>a6o E m0 N keep call lf cur b F H k
 | _,.exit id,F,H,k=>k (.exit id) F H
 | _,.ret,F,H,k=>k .ret F H
 | _,_,_,_,_=>none
/-! ### functions -/
def a1b (E:Env) (F:Frm) (H:a05):List ResultVar → Option (List AV)
 | []=>some []
 | .tmp t :: r=>match a1b E F H r with
  | some vs=>some (a4d F t :: vs)
  | none=>none
 | .cell a t :: r=>match a6a E (a02 H) t (a4d F a),a1b E F H r with
  | some v,some vs=>some (v :: vs)
  | _,_=>none
def a7j:List AV → AV
 | [v]=>v
 | vs=>.tuple vs
def a3v:Nat → List AV → Frm
 | _,[]=>[]
 | i,v :: vs=>(i,v) :: a3v (i + 1) vs
def a31 (h:FHeap) (b:Nat):FHeap:=fun x=>bif Nat.beq x b then none else h x
def e1b (m:Nat) (v:AV) (H:a05):Option (AV × a05):=match v with
 | .ptr b i o=>bif Nat.ble m b then (match a02 H b with
  | some (.row k rows)=>match c1m m (a94 (a31 (a02 H) b) m 12) rows with
   | some rows'=>some (.ptr m i o,(H.take m).map (Option.map (a0v (a1k m))) ++ [some (.row k rows')])
   | none=>none
  | _=>none) else none
 | .slice b off len cap=>some (.slice b off len cap,H)
 | .agg cs=>some (.agg cs,H)
 | _=>none
def a1v (thaw:Bool) (m:Nat) (v:AV) (H:a05):Option (AV × a05):=
 bif thaw then (bif Nat.beq m 0 then e1b m v H else some (v,H)) else match a4z m true (a94 (a02 H) m 12) v with
  | some v'=>some (v',(H.take m).map (Option.map (a0v (a1k m))))
  | none=>some (v,H)
end Go.Ax
/- AxNow: what d8w at a3y point of a function's run, against its entry. -/
namespace Go.Ax
structure Entry where
 I:Nat → Prop
 K:Nat → Prop
 ρ:PMap
 m:Nat
 w:World
 defers:List Deferred
def NRel (ρ:PMap) (n:Nat):Prop:=∀ b,n ≤ b → ρ b = none
structure Now (E:Env) (e:Entry) (N:Nat) (F:Frm) (H:a05) (I:Nat → Prop) (ρ:PMap) (a:Act) (w:World):Prop where
 imm:∀ c,e.I c → I c
 map:∀ b,b < e.m → ρ b = e.ρ b
 ext:Ext e.I e.K e.w w
 rel:HRel E.G I e.K ρ (a02 H) w
 nrel:NRel ρ H.length
 frm:FRel I w ρ N F a.tmps
 low:e.m ≤ H.length
 defers:a.defers = e.defers
section
variable {E:Env}
theorem c5y (H:a05):a02 H H.length = none:=by simp [a02]
theorem e3t (H:a05) (e:Eff):∀ b o,a02 (b0h H e) b = some o → ((a02 H).eff H.length e) b = some o:=by
 intro b o hb
 cases e with
 | none=>exact hb
 | new o1=>
  simp only [b0h,a02,FHeap.eff,FHeap.set] at hb ⊢
  by_cases h:b = H.length
  ·subst h;simp at hb;simp [hb]
  ·rw [if_neg h]
   rcases Nat.lt_or_ge b H.length with h1|h1
   ·rwa [List.getElem?_append_left h1] at hb
   ·rw [List.getElem?_eq_none (by simp;omega)] at hb;simp at hb
 | set b1 o1=>
  simp only [b0h,a02,FHeap.eff,FHeap.set] at hb ⊢
  rw [List.getElem?_set] at hb
  by_cases h:b = b1
  ·subst h
   rw [if_pos rfl] at hb ⊢
   split at hb
   ·simpa using hb
   ·simp at hb
  ·rw [if_neg (fun e=>h e.symm)] at hb;rw [if_neg h];exact hb
 | kill b1 o1=>
  simp only [b0h,a02,FHeap.eff,FHeap.set] at hb ⊢
  by_cases h:b = H.length
  ·subst h
   rw [List.getElem?_append_right (by simp)] at hb
   simp at hb;simp [hb]
  ·rw [if_neg h]
   rcases Nat.lt_or_ge b H.length with h1|h1
   ·rw [List.getElem?_append_left (by simpa using h1),List.getElem?_set] at hb
    by_cases h2:b = b1
    ·subst h2
     rw [if_pos rfl] at hb
     split at hb<;>simp at hb
    ·rw [if_neg (fun e=>h2 e.symm)] at hb;rw [if_neg h2];exact hb
   ·rw [List.getElem?_eq_none (by simp;omega)] at hb;simp at hb
theorem a9i (H:a05) (e:Eff):(b0h H e).length = if e.fresh then H.length + 1 else H.length:=by
 cases e<;>simp [b0h,Eff.fresh]
theorem NRel.moves {ρ ρ':PMap} {H:a05} {e:Eff} (hn:NRel ρ H.length) (hm:Moves ρ ρ' H.length e):NRel ρ' (b0h H e).length:=by
 intro b hb
 rw [a9i] at hb
 cases hf:e.fresh with
 | false=>
  rw [hf] at hb
  rw [hm.2 hf];exact hn b (by simpa using hb)
 | true=>
  rw [hf] at hb
  have hb:H.length + 1 ≤ b:=by simpa using hb
  rw [hm.1 b (by omega)];exact hn b (by omega)
theorem Now.op (ok:EnvOk E) {e:Entry} {N:Nat} {F:Frm} {H:a05} {I:Nat → Prop} {ρ:PMap} {a:Act} {w:World} (h:Now E e N F H I ρ a w) {o:Oper} {v:AV} {eff:Eff}
 (ha:aop E H.length (a02 H) o.op (opv E F) = some (v,eff)) (hd:a79 N o.dst = true) :
 ∃ x w' c ρ',(execOp a.eval o).run E.P w = .ok x w' ∧ (x = .value c ∨ (x = .skip ∧ c = undef)) ∧ Now E e N (a3q F o.dst v) (b0h H eff) I ρ' (a.put o.dst c) w':=by
 obtain ⟨x,w',c,ρ',hrun,hx,step,hv,hm⟩:=d6b ok h.rel (c5y H) (h.nrel _ (Nat.le_refl _)) ha (c2m h.rel h.frm)
 refine ⟨x,w',c,ρ',hrun,hx,?_⟩
 have hd':∀ s,o.dst = some s → s < N:=by intro s hs;rw [hs] at hd;simpa [a79,Nat.blt_eq] using hd
 refine ⟨h.imm,fun b hb=>?_,h.ext.trans h.imm step.ext,step.rel.fewer (e3t H eff),h.nrel.moves hm,?_,?_,?_⟩
 ·rw [hm.1 b (by have:=h.low;omega)];exact h.map b hb
 ·exact (FRel.mono h.frm (fun v c hv=>step.vrel hv)).set hd' hv
 ·rw [a9i];have:=h.low;split<;>omega
 ·rw [← h.defers];cases o.dst<;>rfl
theorem Now.refine {e:Entry} {N:Nat} {F:Frm} {H:a05} {I:Nat → Prop} {ρ:PMap} {a:Act} {w:World} (h:Now E e N F H I ρ a w) {d:Nat} {v:AV} (hv:VRel I w ρ v (a.tmps.getD d undef)) :
 Now E e N (a3q F (some d) v) H I ρ a w:=
 { h with frm:=⟨h.frm.1,fun s=>by
  rw [a8f]
  split
  ·rename_i hs;subst hs;exact hv
  ·exact h.frm.2 s⟩ }
theorem Now.skip {e:Entry} {N:Nat} {F:Frm} {H:a05} {I:Nat → Prop} {ρ:PMap} {a:Act} {w:World} (h:Now E e N F H I ρ a w) {o:Oper} (hd:a79 N o.dst = true) :
 Now E e N (a3q F o.dst (.tuple [])) H I ρ (a.put o.dst undef) w:=
 { h with
  frm:=h.frm.set (by intro s hs;rw [hs] at hd;simpa [a79,Nat.blt_eq] using hd) (by simp only [VRel,undef];exact ⟨#[],rfl,by simp [VRels]⟩)
  defers:=by rw [← h.defers];cases o.dst<;>rfl }
end
end Go.Ax
/- AxCall: a call on the blocks that its arguments a2p, and back. -/
namespace Go.Ax
structure Ret (E:Env) (I K:Nat → Prop) (ρ:PMap) (m:Nat) (w:World) (I':Nat → Prop) (ρ':PMap) (H':a05) (w':World):Prop where
 imm:∀ c,I c → I' c
 map:∀ b,b < m → ρ' b = ρ b
 ext:Ext I K w w'
 rel:HRel E.G I' K ρ' (a02 H') w'
 nrel:NRel ρ' H'.length
 low:m ≤ H'.length
def b7z (E:Env) (f:FuncId) (run:List AV → a05 → Option (AV × a05)):Prop:=
 ∀ args H v H',run args H = some (v,H') → ∀ (I K:Nat → Prop) (ρ:PMap) (w:World) (cargs:List Value),HRel E.G I K ρ (a02 H) w → NRel ρ H.length → VRels I w ρ args cargs →
  Calls E.P f cargs.toArray w fun en w'=>∃ c I' ρ',en = .returned c ∧ Ret E I K ρ H.length w I' ρ' H' w' ∧ VRel I' w' ρ' v c
def b4h (K:Nat → Prop) (ρ:PMap) (hp:FHeap) (σ:List Nat):Nat → Prop:=fun c=>K c ∨ ∃ b o m,hp b = some o ∧ ρ b = some m ∧ m.blk = c ∧ b ∉ σ
theorem a1f {σ:List Nat} {b j:Nat} (h:σ.idxOf? b = some j):σ[j]? = some b:=by
 rw [List.idxOf?_eq_some_iff] at h
 obtain ⟨hj,hb,_⟩:=h
 rw [List.getElem?_eq_getElem hj,hb]
theorem b17 {σ:List Nat} {b:Nat} (h:σ.idxOf? b = none):b ∉ σ:=by
 simpa [List.idxOf?_eq_none_iff] using h
theorem b27 {l:List Nat} (h:a5f l = true):l.Nodup:=by
 induction l with
 | nil=>exact List.nodup_nil
 | cons b r ih=>
  simp only [a5f,Bool.and_eq_true,Bool.not_eq_true',← Bool.not_eq_true,a2t] at h
  exact List.nodup_cons.2 ⟨h.1,ih h.2⟩
theorem a3e {σ:List Nat} {b j:Nat} (hn:σ.Nodup) (h:σ[j]? = some b):σ.idxOf? b = some j:=by
 rw [List.idxOf?_eq_some_iff]
 obtain ⟨hj,hb⟩:=List.getElem?_eq_some_iff.1 h
 refine ⟨hj,hb,fun i hi he=>?_⟩
 have:=(List.getElem_inj (h₀:=by omega) (h₁:=hj) hn).1 (he.trans hb.symm)
 omega
section
variable {E:Env} {I K:Nat → Prop} {ρ:PMap} {hp:FHeap} {w:World} {σ:List Nat}
def a5x (hp:FHeap) (σ:List Nat):a05:=σ.map fun b=>(hp b).map (a0v (a59 σ))
theorem b51 (j:Nat):a02 (a5x hp σ) j = (σ[j]?).bind fun b=>(hp b).map (a0v (a59 σ)):=by
 simp only [a02,a5x,List.getElem?_map]
 cases σ[j]?<;>simp
theorem c86 (r:HRel E.G I K ρ hp w) (hn:σ.Nodup):HRel E.G I (b4h K ρ hp σ) (fun j=>(σ[j]?).bind ρ) (a02 (a5x hp σ)) w:=by
 have r1:HRel E.G I K (fun j=>(σ[j]?).bind ρ) (a02 (a5x hp σ)) w:=by
  refine r.rename (π:=a59 σ) ?_ ?_ ?_
  ·intro b j m hj hb
   have:=a1f hj
   simp only [this,Option.bind_some,hb]
  ·intro j o' ho
   rw [b51] at ho
   cases hb:σ[j]? with
   | none=>rw [hb] at ho;simp at ho
   | some b=>
    rw [hb] at ho
    simp only [Option.bind_some] at ho
    cases hpb:hp b with
    | none=>rw [hpb] at ho;simp at ho
    | some o=>
     rw [hpb] at ho
     simp only [Option.map_some,Option.some.injEq] at ho
     exact ⟨b,o,hpb,a3e hn hb,ho.symm⟩
  ·intro j m hj
   cases hb:σ[j]? with
   | none=>rw [hb] at hj;simp at hj
   | some b=>rw [hb] at hj;exact r.dom b m hj
 refine ⟨?_,r1.inj,r1.dom,r1.imm,?_,?_,r1.glob⟩
 ·intro j o' ho
  obtain ⟨m,h1,h2,h3,h4⟩:=r1.live j o' ho
  refine ⟨m,h1,h2,?_,h4⟩
  rintro (hk|⟨b,o,m',hb,hm',he,hns⟩)
  ·exact h3 hk
  ·rw [b51] at ho
   cases hσ:σ[j]? with
   | none=>rw [hσ] at ho;simp at ho
   | some b'=>
    rw [hσ] at ho h1
    simp only [Option.bind_some] at ho h1
    have hl:(hp b').isSome:=by cases h:hp b' with|none=>rw [h] at ho;simp at ho|some _=>rfl
    have:=r.inj b b' m' m (by simp [hb]) hl hm' h1 he
    subst this
    exact hns (List.mem_of_getElem? hσ)
 ·rintro c (hk|⟨b,o,m',hb,hm',rfl,_⟩)
  ·exact r.kept c hk
  ·exact r.dom b m' hm'
 ·rintro c hc (hk|⟨b,o,m',hb,hm',rfl,_⟩)
  ·exact r.apart c hc hk
  ·obtain ⟨m'',h1,h2,_⟩:=r.live b o hb
   obtain rfl:m' = m'':=Option.some.inj (hm'.symm.trans h1)
   exact h2 hc
theorem b7o {g:FuncId} {run:List AV → a05 → Option (AV × a05)} (hrun:b7z E g run) {args:List AV} {cargs:List Value} {v1:AV} {H1:a05}
 (hcall:run (args.map (ren (a59 σ))) (a5x hp σ) = some (v1,H1)) (r:HRel E.G I K ρ hp w) (hn:σ.Nodup) (ha:VRels I w ρ args cargs) :
 Calls E.P g cargs.toArray w fun en w'=>∃ c I1 ρ1,en = .returned c ∧ Ret E I (b4h K ρ hp σ) (fun j=>(σ[j]?).bind ρ) σ.length w I1 ρ1 H1 w' ∧ VRel I1 w' ρ1 v1 c:=by
 have h:=hrun _ _ _ _ hcall I (b4h K ρ hp σ) (fun j=>(σ[j]?).bind ρ) w cargs (c86 r hn)
  (by intro j hj;simp only [a5x,List.length_map] at hj;simp [List.getElem?_eq_none hj])
  (by
   rw [← a7g]
   exact VRels.ren (fun b j m hj hb=>by have:=a1f hj;simp only [this,Option.bind_some,hb]) args ha)
 simpa [a5x] using h
theorem b7r {n:Nat} {I1:Nat → Prop} {ρ1:PMap} {H1:a05} {w':World} (r:HRel E.G I K ρ hp w) (_:σ.Nodup)
 (hret:Ret E I (b4h K ρ hp σ) (fun j=>(σ[j]?).bind ρ) σ.length w I1 ρ1 H1 w') {ρ2:PMap} {h2:FHeap}
 (hold:∀ b m,ρ b = some m → ρ2 b = some m) (hback:∀ j b m,a1d σ n j = some b → ρ1 j = some m → ρ2 b = some m)
 (hdom:∀ b m,ρ2 b = some m → ρ b = some m ∨ ∃ j,ρ1 j = some m)
 (hh:∀ b o,h2 b = some o → (b ∉ σ ∧ hp b = some o) ∨ ∃ j o1,a1d σ n j = some b ∧ a02 H1 j = some o1 ∧ o = a0v (a1d σ n) o1) :
 HRel E.G I1 K ρ2 h2 w':=by
 have hsz:=hret.ext.size
 have hIw:∀ c,I c → w'.heap[c]? = w.heap[c]?:=fun c hc=>hret.ext.keep c (.inl hc)
 have r1:=hret.rel
 have live2:∀ b o,h2 b = some o → ∃ m,ρ2 b = some m ∧ ¬ I1 m.blk ∧ ¬ K m.blk ∧ ORel I1 w' ρ2 m o ∧ ((b ∉ σ ∧ hp b = some o ∧ ρ b = some m) ∨ ∃ j,a1d σ n j = some b ∧ (a02 H1 j).isSome ∧ ρ1 j = some m):=by
  intro b o hb
  rcases hh b o hb with ⟨hns,hpb⟩|⟨j,o1,hj,ho1,rfl⟩
  ·obtain ⟨m,h1,h3,h4,h5⟩:=r.live b o hpb
   have hkb:b4h K ρ hp σ m.blk:=.inr ⟨b,o,m,hpb,h1,rfl,hns⟩
   refine ⟨m,hold b m h1,fun hc=>r1.apart _ hc hkb,h4,?_,.inl ⟨hns,hpb,h1⟩⟩
   exact ORel.mono o hret.imm hIw hold (hret.ext.keep _ (.inr hkb)) h5
  ·obtain ⟨m,h1,h3,h4,h5⟩:=r1.live j o1 ho1
   refine ⟨m,hback j b m hj h1,h3,fun hk=>h4 (.inl hk),ORel.ren (fun j b m hj h=>hback j b m hj h) o1 h5,.inr ⟨j,hj,by simp [ho1],h1⟩⟩
 refine ⟨?_,?_,?_,r1.imm,?_,?_,r1.glob⟩
 ·intro b o hb
  obtain ⟨m,h1,h3,h4,h5,_⟩:=live2 b o hb
  exact ⟨m,h1,h3,h4,h5⟩
 ·intro b b' m m' hb hb' hm hm' he
  obtain ⟨o,ho⟩:=Option.isSome_iff_exists.1 hb
  obtain ⟨o',ho'⟩:=Option.isSome_iff_exists.1 hb'
  obtain ⟨q,hq,_,_,_,hc⟩:=live2 b o ho
  obtain ⟨q',hq',_,_,_,hc'⟩:=live2 b' o' ho'
  rw [hm] at hq;cases hq
  rw [hm'] at hq';cases hq'
  rcases hc with ⟨hns,hpb,h1⟩|⟨j,hj,hl,h1⟩<;>rcases hc' with ⟨hns',hpb',h1'⟩|⟨j',hj',hl',h1'⟩
  ·exact r.inj b b' m m' (by simp [hpb]) (by simp [hpb']) h1 h1' he
  ·exfalso
   obtain ⟨o1,ho1⟩:=Option.isSome_iff_exists.1 hl'
   obtain ⟨q,hq,_,hk,_⟩:=r1.live j' o1 ho1
   rw [h1'] at hq;cases hq
   exact hk (.inr ⟨b,o,m,hpb,h1,he,hns⟩)
  ·exfalso
   obtain ⟨o1,ho1⟩:=Option.isSome_iff_exists.1 hl
   obtain ⟨q,hq,_,hk,_⟩:=r1.live j o1 ho1
   rw [h1] at hq;cases hq
   exact hk (.inr ⟨b',o',m',hpb',h1',he.symm,hns'⟩)
  ·have:=r1.inj j j' m m' hl hl' h1 h1' he
   subst this
   rw [hj] at hj'
   exact Option.some.inj hj'
 ·intro b m hb
  rcases hdom b m hb with h|⟨j,h⟩
  ·have:=r.dom b m h;omega
  ·exact r1.dom j m h
 ·intro c hc;have:=r.kept c hc;omega
 ·intro c hc hk;exact r1.apart c hc (.inl hk)
end
end Go.Ax
/- AxCall2: a call in sequence; the concrete step of a call. -/
namespace Go.Ax
section
variable {E:Env} {I K:Nat → Prop} {ρ:PMap} {w:World}
theorem a7i (σ:List Nat) (n:Nat) (H1:a05):∀ (b0:Nat) (H:a05) (i:Nat),
 (a0x σ n H1 b0 H)[i]? = (H[i]?).map fun o=>match σ.idxOf? (b0 + i) with
  | some j=>(a02 H1 j).map (a0v (a1d σ n))
  | none=>o
 | b0,[],i=>by simp [a0x]
 | b0,o :: r,0=>by simp [a0x]<;>rfl
 | b0,o :: r,i + 1=>by
  simp only [a0x,List.getElem?_cons_succ]
  rw [a7i σ n H1 (b0 + 1) r i,show b0 + 1 + i = b0 + (i + 1) by omega]
theorem a18 (σ:List Nat) (n:Nat) (H1:a05):∀ (b0:Nat) (H:a05),(a0x σ n H1 b0 H).length = H.length
 | b0,[]=>by simp [a0x]
 | b0,o :: r=>by simp [a0x,a18 σ n H1 (b0 + 1) r]
theorem c5n {g:FuncId} {run:List AV → a05 → Option (AV × a05)} (hrun:b7z E g run) {args:List AV} {cargs:List Value} {H H':a05} {v:AV} {σ:List Nat}
 (hcall:a35 run args H = some (v,H',σ)) (r:HRel E.G I K ρ (a02 H) w) (hn:NRel ρ H.length) (ha:VRels I w ρ args cargs) :
 Calls E.P g cargs.toArray w fun en w'=>∃ c I' ρ',en = .returned c ∧ Ret E I K ρ H.length w I' ρ' H' w' ∧ VRel I' w' ρ' v c:=by
 unfold a35 at hcall
 simp only at hcall
 generalize hσ:a2p H a53 (a0e args) [] = σ' at hcall
 rw [cond_eq_ite] at hcall
 split at hcall
 case isFalse=>cases hcall
 rename_i hc
 simp only [Bool.and_eq_true,List.all_eq_true,Nat.blt_eq] at hc
 obtain ⟨hnd,hlt⟩:=hc
 have hnd:=b27 hnd
 split at hcall
 case h_2=>cases hcall
 rename_i v1 H1 hr
 simp only [Option.some.injEq,Prod.mk.injEq] at hcall
 obtain ⟨rfl,rfl,rfl⟩:=hcall
 have hr':run (args.map (ren (a59 σ'))) (a5x (a02 H) σ') = some (v1,H1):=hr
 refine (b7o hrun hr' r hnd ha).mono ?_
 rintro en w' ⟨c,I1,ρ1,rfl,hret,hv⟩
 have hback:∀ j b m,a1d σ' H.length j = some b → ρ1 j = some m → (if b < H.length then ρ b else ρ1 (σ'.length + (b - H.length))) = some m:=by
  intro j b m hj hm
  simp only [a1d] at hj
  rw [cond_eq_ite] at hj
  split at hj
  ·rename_i hjl
   have hjl:j < σ'.length:=by simpa [Nat.blt_eq] using hjl
   have hb:=hlt b (List.mem_of_getElem? hj)
   rw [if_pos hb]
   have:=hret.map j hjl
   rw [hm,hj] at this
   exact this.symm
  ·rename_i hjl
   have hjl:σ'.length ≤ j:=by simpa [Nat.blt_eq] using hjl
   cases hj
   rw [if_neg (by omega),show σ'.length + (H.length + (j - σ'.length) - H.length) = j by omega]
   exact hm
 have hold:∀ b m,ρ b = some m → (if b < H.length then ρ b else ρ1 (σ'.length + (b - H.length))) = some m:=by
  intro b m hb
  have:b < H.length:=by
   rcases Nat.lt_or_ge b H.length with h|h
   ·exact h
   ·rw [hn b h] at hb;cases hb
  rw [if_pos this];exact hb
 refine ⟨c,I1,fun b=>if b < H.length then ρ b else ρ1 (σ'.length + (b - H.length)),rfl,⟨hret.imm,fun b hb=>by rw [if_pos hb],hret.ext.keepLess (fun c hc=>.inl hc),?_,?_,?_⟩,?_⟩
 ·refine b7r r hnd hret hold hback ?_ ?_
  ·intro b m hb
   split at hb
   ·exact .inl hb
   ·exact .inr ⟨_,hb⟩
  ·intro b o hb
   simp only [a02] at hb
   rcases Nat.lt_or_ge b H.length with hbl|hbl
   ·rw [List.getElem?_append_left (by rw [a18];exact hbl),a7i] at hb
    simp only [Nat.zero_add] at hb
    rw [List.getElem?_eq_getElem hbl] at hb
    simp only [Option.map_some,Option.join_some] at hb
    split at hb
    ·rename_i j hj
     right
     have hσj:=a1f hj
     have hjl:=(List.getElem?_eq_some_iff.1 hσj).1
     obtain ⟨o1,ho1,rfl⟩:=a0b hb
     refine ⟨j,o1,?_,ho1,rfl⟩
     simp only [a1d]
     rw [cond_eq_ite,if_pos (by simpa [Nat.blt_eq] using hjl)]
     exact hσj
    ·rename_i hj
     left
     exact ⟨b17 hj,by simp only [a02];rw [List.getElem?_eq_getElem hbl];simpa using hb⟩
   ·right
    rw [List.getElem?_append_right (by rw [a18];exact hbl),a18,List.getElem?_map,List.getElem?_drop] at hb
    refine ⟨σ'.length + (b - H.length),?_⟩
    cases hx:H1[σ'.length + (b - H.length)]? with
    | none=>rw [hx] at hb;simp at hb
    | some ob=>
     rw [hx] at hb
     simp only [Option.map_some,Option.join_some] at hb
     obtain ⟨o1,rfl,rfl⟩:=a0b hb
     refine ⟨o1,?_,by simp [a02,hx],rfl⟩
     simp only [a1d]
     rw [cond_eq_ite,if_neg (by simp [Nat.blt_eq])]
     congr 1;omega
 ·intro b hb
  simp only [List.length_append,a18,List.length_map,List.length_drop] at hb
  have hlow:=hret.low
  dsimp only
  rw [if_neg (by omega)]
  exact hret.nrel _ (by omega)
 ·simp [a18]
 ·exact VRel.ren (fun j b m hj hm=>hback j b m hj hm) v1 hv
theorem b0g {a:Act} {o:Oper} {f:Operand} {args:Array Operand} {ats:Array TypeId} (ho:o.op = .call ⟨.value f,args,ats⟩) {g:FuncId} {fs cs:Array Value} (hf:a.eval f = .func (.func g) fs cs) :
 (execOp a.eval o).run E.P w = (callFunc g (fs ++ args.map a.eval ++ cs)).run E.P w:=by
 obtain ⟨dst,op,type,pos,after,guard⟩:=o
 simp only at ho
 subst ho
 simp [execOp,resolve,hf,Deferred.ofValue,invoke]
theorem a6l (ok:EnvOk E) {g:FuncId} (hg:(E.fn g).isSome = true) (args:Array Value):(callFunc g args).run E.P w = .ok (.enter g args) w:=by
 obtain ⟨i,hi⟩:=Option.isSome_iff_exists.1 hg
 obtain ⟨fn,h1,h2,_,_,h5⟩:=ok.fn g i hi
 have h6:¬ fn.name = "runtime.NumGoroutine" := by simpa using h5
 simp [callFunc,h1,h2,h6]
theorem b1u (ok:EnvOk E) {g:FuncId} (hg:E.ext g = true) {args:List AV} {cargs:List Value} {v:AV} (hv:e95 args = some v) (ha:VRels I w ρ args cargs) :
 ∃ c,(callFunc g cargs.toArray).run E.P w = .ok (.value c) w ∧ VRel I w ρ v c:=by
 obtain ⟨fn,h1,h2,h3,h4,h5⟩:=ok.ext g hg
 unfold e95 at hv
 split at hv
 case h_2=>cases hv
 rename_i s cc
 cases hv
 simp only [VRels] at ha
 obtain ⟨c1,_,rfl,hs,c2,_,rfl,hb,rfl⟩:=ha
 simp only [VRel] at hs hb
 obtain ⟨t,rfl,ht⟩:=hs
 subst hb
 refine ⟨.int .i64 (Lib.indexByte s cc.toNat.toUInt8),?_,by simp [VRel]⟩
 have:=Lib.run_indexByteString (P:=E.P) t cc w
 rw [ht] at this
 have h6:¬ fn.name = "runtime.NumGoroutine" := by simpa using h3
 simp [callFunc,h1,h2,h6,h4,h5,this]
end
end Go.Ax
/- AxSeq: operations in a row that draw no order. -/
namespace Go.Ax
section
variable {E:Env}
theorem Now.call {e:Entry} {N:Nat} {F:Frm} {H H':a05} {I I':Nat → Prop} {ρ ρ':PMap} {a:Act} {w w':World} (h:Now E e N F H I ρ a w) (r:Ret E I e.K ρ H.length w I' ρ' H' w')
 {d:Option Tmp} {v:AV} {c:Value} (hd:a79 N d = true) (hv:VRel I' w' ρ' v c):Now E e N (a3q F d v) H' I' ρ' (a.put d c) w':=by
 have hρ:∀ b m,ρ b = some m → ρ' b = some m:=by
  intro b m hb
  have:b < H.length:=by
   rcases Nat.lt_or_ge b H.length with h'|h'
   ·exact h'
   ·rw [h.nrel b h'] at hb;cases hb
  rw [r.map b this];exact hb
 refine ⟨fun c hc=>r.imm c (h.imm c hc),fun b hb=>?_,h.ext.trans h.imm r.ext,r.rel,r.nrel,?_,?_,?_⟩
 ·rw [r.map b (by have:=h.low;omega)];exact h.map b hb
 ·exact (FRel.mono h.frm (fun v c hv=>VRel.mono r.imm (fun c hc=>r.ext.keep c (.inl hc)) v hρ hv)).set (by intro s hs;rw [hs] at hd;simpa [a79,Nat.blt_eq] using hd) hv
 ·have:=h.low;have:=r.low;omega
 ·rw [← h.defers];cases d<;>rfl
def a3l (E:Env) (call:FuncId → List AV → a05 → Option (AV × a05)):Prop:=∀ g,b7z E g (call g)
theorem c6i (ok:EnvOk E) {call:FuncId → List AV → a05 → Option (AV × a05)} (hcall:a3l E call) {draw:Bool} {e:Entry} {N:Nat} {F:Frm} {H H':a05} {I:Nat → Prop} {ρ:PMap} {a:Act} {w:World}
 (h:Now E e N F H I ρ a w) {o:Oper} {v:AV} {l:LogE} (hs:a11 E draw call F H o.op = some (v,H',l)) (hd:a79 N o.dst = true) {K:Act → World → Prop} {Q:Exit → Act → World → Prop}
 (hK:∀ I' ρ' a' w',Now E e N (a3q F o.dst v) H' I' ρ' a' w' → K a' w'):o.wp E.P a w K Q:=by
 unfold Oper.wp
 unfold a11 at hs
 split at hs
 ·rename_i f args ats hop
  split at hs
  case h_2=>cases hs
  rename_i v' H1 σ hcv
  cases hs
  unfold a0c at hcv
  split at hcv
  case h_2=>cases hcv
  rename_i g fs cs hfv
  have hf:=c2m h.rel h.frm f
  rw [hfv] at hf
  simp only [VRel] at hf
  obtain ⟨fs',cs',hfe,hfs,hcs⟩:=hf
  have hargs:VRels I w ρ (fs ++ args.toList.map (opv E F) ++ cs) (fs' ++ args.map a.eval ++ cs').toList:=by
   simp only [Array.toList_append,Array.toList_map]
   exact VRels.append (VRels.append hfs (a6r (c2m h.rel h.frm) args.toList)) hcs
  rw [b0g hop hfe]
  rw [cond_eq_ite] at hcv
  split at hcv
  ·rename_i hext
   split at hcv
   case h_2=>cases hcv
   rename_i v'' hv''
   cases hcv
   obtain ⟨c,hrun,hvc⟩:=b1u (E:=E) (w:=w) ok hext hv'' hargs
   have harr:(fs' ++ args.map a.eval ++ cs').toList.toArray = fs' ++ args.map a.eval ++ cs':=by apply Array.ext';simp
   rw [harr] at hrun
   rw [hrun,Oper.upon_value]
   exact hK I ρ _ _ (h.call ⟨fun _ h=>h,fun _ _=>rfl,Ext.refl _ _ _,h.rel,h.nrel,Nat.le_refl _⟩ hd hvc)
  ·rw [cond_eq_ite] at hcv
   split at hcv
   case isFalse=>cases hcv
   rename_i hg
   split at hcv
   case h_2=>cases hcv
   rename_i v'' H2 σ2 hloc
   rw [cond_eq_ite] at hcv
   split at hcv
   case isTrue=>cases hcv
   cases hcv
   rw [a6l ok hg,Oper.upon_enter]
   have hc:=c5n (hcall g) hloc h.rel h.nrel hargs
   have harr:(fs' ++ args.map a.eval ++ cs').toList.toArray = fs' ++ args.map a.eval ++ cs':=by apply Array.ext';simp
   rw [harr] at hc
   refine hc.mono ?_
   rintro en w' ⟨c,I',ρ',rfl,hret,hvc⟩
   exact hK I' ρ' _ _ (h.call hret hd hvc)
 ·split at hs
  case h_2=>cases hs
  rename_i v' eff ha
  rw [cond_eq_ite] at hs
  split at hs
  case isFalse=>cases hs
  cases hs
  obtain ⟨x,w',c,ρ',hrun,hx,hnow⟩:=h.op ok ha hd
  rw [hrun]
  rcases hx with rfl|⟨rfl,rfl⟩
  ·rw [Oper.upon_value];exact hK I ρ' _ _ hnow
  ·rw [Oper.upon_skip];exact hK I ρ' _ _ hnow
theorem c41 {P:Program} {ops:Array Oper} {Q:Exit → Act → World → Prop} {i:Nat} {rest:List Nat} {a:Act} {w:World} {o:Oper} (ho:ops[i]? = some o)
 (hw:Region.wanted o (yielded ops a.tmps) = true) (h:o.wp P a w (wpOps P ops Q rest) Q):wpOps P ops Q (i :: rest) a w:=by
 simp only [wpOps,ho,hw,if_true];exact .inl h
theorem c40 {P:Program} {ops:Array Oper} {Q:Exit → Act → World → Prop} {i:Nat} {rest:List Nat} {a:Act} {w:World} {o:Oper} (ho:ops[i]? = some o)
 (hw:Region.wanted o (yielded ops a.tmps) = false) (h:wpOps P ops Q rest (a.put o.dst undef) w):wpOps P ops Q (i :: rest) a w:=by
 simp only [wpOps,ho,hw];simpa using h
theorem c3z {e:Entry} {N:Nat} {F:Frm} {H:a05} {I:Nat → Prop} {ρ:PMap} {a:Act} {w:World} (h:Now E e N F H I ρ a w) {ops:Array Oper} {j d:Nat} (hg:a2x ops.toList j = some d) :
 (∀ b,a4d F d = .bool b → yielded ops a.tmps j = some b) ∧ (a4d F d = .tuple [] → yielded ops a.tmps j = none):=by
 have hd:(ops[j]?).bind (·.dst) = some d:=by simpa [a2x] using hg
 have hv:=h.frm.2 d
 have hget:∀ c,a.tmps.getD d undef = c → c ≠ undef → a.tmps[d]? = some c:=by
  intro c hc hne
  rw [Array.getD_eq_getD_getElem?] at hc
  cases hx:a.tmps[d]? with
  | none=>rw [hx] at hc;exact absurd hc.symm hne
  | some x=>rw [hx] at hc;simpa using hc
 refine ⟨fun b hb=>?_,fun hb=>?_⟩
 ·rw [hb] at hv
  simp only [VRel] at hv
  have:=hget _ hv (by simp [undef])
  simp [yielded,hd,this]
 ·rw [hb] at hv
  simp only [VRel] at hv
  obtain ⟨cs,hc,hcs⟩:=hv
  unfold yielded
  rw [hd]
  simp only [Option.bind_some]
  rw [Array.getD_eq_getD_getElem?] at hc
  cases hx:a.tmps[d]? with
  | none=>rfl
  | some x=>
   rw [hx] at hc
   simp only [Option.getD_some] at hc
   rw [hc]
theorem b55 (ok:EnvOk E) {call:FuncId → List AV → a05 → Option (AV × a05)} (hcall:a3l E call) {e:Entry} {N:Nat} {ops:Array Oper} {R:Type} {k:Frm → a05 → Option R} {r:R}
 {Q:Exit → Act → World → Prop} (hQ:∀ F H I ρ a w,Now E e N F H I ρ a w → k F H = some r → Q .normal a w) :
 ∀ (rest:List Oper) (s:Nat) (log:List LogE) (F:Frm) (H:a05) (I:Nat → Prop) (ρ:PMap) (a:Act) (w:World),rest = ops.toList.drop s → Now E e N F H I ρ a w →
  a2j E false N call ops.toList rest log F H k = some r → wpOps E.P ops Q (List.range' s rest.length) a w
 | [],s,log,F,H,I,ρ,a,w,_,hnow,hrun=>by
  simp only [a2j,Bool.not_false,Bool.true_or,cond_true] at hrun
  simp only [List.length_nil,List.range'_zero,wpOps]
  exact hQ F H I ρ a w hnow hrun
 | o :: rest,s,log,F,H,I,ρ,a,w,hrest,hnow,hrun=>by
  have ho:ops[s]? = some o:=by
   have:(ops.toList.drop s)[0]? = some o:=by rw [← hrest];rfl
   rw [List.getElem?_drop] at this
   simpa using this
  have hrest':rest = ops.toList.drop (s + 1):=by
   have:(ops.toList.drop s).drop 1 = rest:=by rw [← hrest];rfl
   rw [List.drop_drop] at this
   exact this.symm
  rw [List.length_cons,List.range'_succ]
  unfold a2j at hrun
  rw [cond_eq_ite] at hrun
  split at hrun
  case isFalse=>cases hrun
  rename_i hd
  have ih:=fun log F H I ρ a w hnow hrun=>b55 ok hcall hQ rest (s + 1) log F H I ρ a w hrest' hnow hrun
  have exec:∀ F0,Now E e N F0 H I ρ a w → (match a11 E false call F0 H o.op with
   | some (v,H',l)=>a2j E false N call ops.toList rest (l :: log) (a3q F0 o.dst v) H' k
   | none=>none) = some r → Region.wanted o (yielded ops a.tmps) = true → wpOps E.P ops Q (s :: List.range' (s + 1) rest.length) a w:=by
   intro F0 hn0 hr hw
   split at hr
   case h_2=>cases hr
   rename_i v H' l hs
   exact c41 ho hw (c6i ok hcall hn0 hs hd (fun I' ρ' a' w' hn'=>ih _ _ _ I' ρ' a' w' hn' hr))
  have skip:∀ F0 log',Now E e N F0 H I ρ a w → a2j E false N call ops.toList rest log' (a3q F0 o.dst (.tuple [])) H k = some r → Region.wanted o (yielded ops a.tmps) = false →
   wpOps E.P ops Q (s :: List.range' (s + 1) rest.length) a w:=by
   intro F0 log' hn0 hr hw
   exact c40 ho hw (ih _ _ _ I ρ _ w (hn0.skip hd) hr)
  split at hrun
  ·rename_i hg
   exact exec F hnow hrun (by simp [Region.wanted,hg])
  ·rename_i j want hg
   split at hrun
   case h_1=>cases hrun
   rename_i d hgs
   obtain ⟨hy1,hy2⟩:=c3z hnow hgs
   split at hrun
   ·rename_i b hb
    have hyb:=hy1 b hb
    have hvb:=hnow.frm.2 d
    rw [hb] at hvb
    have hw:Region.wanted o (yielded ops a.tmps) = (b == want):=by simp [Region.wanted,hg,hyb]
    cases b
    ·simp only [cond_false] at hrun
     have hn0:=hnow.refine (d:=d) (v:=.bool false) hvb
     cases want
     ·simp only [cond_false] at hrun
      exact exec _ hn0 hrun (by rw [hw];rfl)
     ·simp only [cond_true] at hrun
      exact skip _ _ hn0 hrun (by rw [hw];rfl)
    ·simp only [cond_true] at hrun
     have hn0:=hnow.refine (d:=d) (v:=.bool true) hvb
     cases want
     ·simp only [cond_false] at hrun
      exact skip _ _ hn0 hrun (by rw [hw];rfl)
     ·simp only [cond_true] at hrun
      exact exec _ hn0 hrun (by rw [hw];rfl)
   ·rename_i hb
    have hyb:=hy2 hb
    exact skip F _ hnow hrun (by simp [Region.wanted,hg,hyb])
   ·cases hrun
end
end Go.Ax
/- AxGc: what may be forgotten: slots behind a region, blocks at a loop's head. -/
namespace Go.Ax
section
variable {E:Env} {e:Entry} {N:Nat} {F:Frm} {H:a05} {I:Nat → Prop} {ρ:PMap} {a:Act} {w:World}
theorem b9a (F:Frm):∀ (keep:List Nat) (s:Nat),a4d (a1q keep F) s = if keep.contains s then a4d F s else .junk
 | [],s=>by simp [a1q,a4d]
 | t :: keep,s=>by
  have ih:=b9a F keep s
  simp only [a1q] at ih ⊢
  simp only [List.map_cons,a4d,c2p,ih]
  by_cases hts:t = s
  ·subst hts;simp
  ·have:(s == t) = false:=by simpa using fun h=>hts h.symm
   have hc:(t :: keep).contains s = keep.contains s:=by rw [List.contains_cons,this,Bool.false_or]
   rw [hc,beq_eq_false_iff_ne.2 hts];rfl
theorem Now.keep (h:Now E e N F H I ρ a w) (keep:List Nat):Now E e N (a1q keep F) H I ρ a w:=
 { h with frm:=⟨h.frm.1,fun s=>by
  rw [b9a]
  split
  ·exact h.frm.2 s
  ·simp [VRel]⟩ }
theorem c32 (π:Nat → Option Nat):∀ (F:Frm) (s:Nat),a4d (c0c π F) s = ren π (a4d F s)
 | [],s=>by simp [c0c,a4d,ren]
 | (t,v) :: F,s=>by
  have ih:=c32 π F s
  simp only [c0c] at ih ⊢
  simp only [List.map_cons,a4d,c2p,ih]
  cases h:(t == s)<;>simp
theorem Now.gc (h:Now E e N F H I ρ a w) {σ:List Nat} (hn:σ.Nodup) (hlow:∀ b ∈ σ,e.m ≤ b) :
 ∃ ρ',Now E e N (c0c (b79 e.m σ) F) (gcH e.m σ H) I ρ' a w:=by
 have hlen:(gcH e.m σ H).length = e.m + σ.length:=by
  have:=h.low
  simp [gcH,a1y];omega
 have hπ:∀ b b' m,b79 e.m σ b = some b' → ρ b = some m → (if b' < e.m then ρ b' else (σ[b' - e.m]?).bind ρ) = some m:=by
  intro b b' m hp hb
  simp only [b79] at hp
  rw [cond_eq_ite] at hp
  split at hp
  ·rename_i hlt
   cases hp
   rw [if_pos (by simpa [Nat.blt_eq] using hlt)];exact hb
  ·obtain ⟨j,hj,rfl⟩:=a0b hp
   rw [if_neg (by omega),Nat.add_sub_cancel_left,a1f hj]
   exact hb
 refine ⟨fun b=>if b < e.m then ρ b else (σ[b - e.m]?).bind ρ,h.imm,fun b hb=>?_,h.ext,?_,?_,?_,?_,h.defers⟩
 ·show (if b < e.m then ρ b else _) = _
  rw [if_pos hb];exact h.map b hb
 ·refine h.rel.rename (π:=b79 e.m σ) hπ ?_ ?_
  ·intro b' o' ho
   simp only [a02,gcH] at ho
   have hml:(H.take e.m).length = e.m:=by have:=h.low;simp;omega
   rcases Nat.lt_or_ge b' e.m with hb|hb
   ·rw [List.getElem?_append_left (by rw [List.length_map,hml];exact hb),List.getElem?_map,List.getElem?_take,if_pos hb] at ho
    cases hx:H[b']? with
    | none=>rw [hx] at ho;simp at ho
    | some ob=>
     rw [hx] at ho
     simp only [Option.map_some,Option.join_some] at ho
     obtain ⟨o,rfl,rfl⟩:=a0b ho
     refine ⟨b',o,by simp [a02,hx],?_,rfl⟩
     simp only [b79]
     rw [cond_eq_ite,if_pos (by simpa [Nat.blt_eq] using hb)]
   ·rw [List.getElem?_append_right (by rw [List.length_map,hml];exact hb)] at ho
    simp only [List.length_map,hml,a1y,List.getElem?_map] at ho
    cases hx:σ[b' - e.m]? with
    | none=>rw [hx] at ho;simp at ho
    | some b=>
     rw [hx] at ho
     simp only [Option.map_some,Option.join_some] at ho
     obtain ⟨o,ho1,rfl⟩:=a0b ho
     refine ⟨b,o,ho1,?_,rfl⟩
     have hbl:=hlow b (List.mem_of_getElem? hx)
     simp only [b79]
     rw [cond_eq_ite,if_neg (by simpa [Nat.blt_eq] using hbl),a3e hn hx]
     simp only [Option.map_some,Option.some.injEq];omega
  ·intro b m hb
   split at hb
   ·exact h.rel.dom b m hb
   ·cases hx:σ[b - e.m]? with
    | none=>rw [hx] at hb;simp at hb
    | some b'=>rw [hx] at hb;exact h.rel.dom b' m hb
 ·intro b hb
  rw [hlen] at hb
  show (if b < e.m then ρ b else _) = _
  rw [if_neg (by omega),List.getElem?_eq_none (by omega)];rfl
 ·refine ⟨h.frm.1,fun s=>?_⟩
  rw [c32]
  exact VRel.ren hπ _ (h.frm.2 s)
 ·rw [hlen];omega
theorem d95 {H:a05} {m b:Nat} {o':AObj} (hb:a02 (c9a m H) b = some o'):∃ o,b < m ∧ a02 H b = some o ∧ o' = a0v (a1k m) o:=by
 simp only [a02,c9a,List.getElem?_map,List.getElem?_take] at hb
 split at hb
 case isFalse=>simp at hb
 rename_i hlt
 cases hx:H[b]? with
 | none=>rw [hx] at hb;simp at hb
 | some ob=>
  rw [hx] at hb
  simp only [Option.map_some,Option.join_some] at hb
  obtain ⟨o,rfl,rfl⟩:=a0b hb
  exact ⟨o,hlt,by simp [a02,hx],rfl⟩
theorem c33 (m:Nat) (H:a05):∀ (F:Frm) (s:Nat),a4d (d13 m H F) s = .junk ∨ a4d (d13 m H F) s = e84 m H (a4d F s)
 | [],s=>.inl (by simp [d13,a4d])
 | (t,v) :: F,s=>by
  have ih:=c33 m H F s
  simp only [d13] at ih ⊢
  simp only [List.map_cons,a4d,c2p]
  cases h:(t == s)
  ·simpa using ih
  ·right;simp
theorem Now.frz (h:Now E e N F H I ρ a w):∃ I' ρ',Now E e N (d13 e.m H F) (c9a e.m H) I' ρ' a w:=by
 have hlen:(c9a e.m H).length = e.m:=by have:=h.low;simp [c9a];omega
 have hlow:∀ b o',a02 (c9a e.m H) b = some o' → ∃ o,b < e.m ∧ a02 H b = some o ∧ o' = a0v (a1k e.m) o:=fun b o' hb=>d95 hb
 refine ⟨a97 I ρ (a02 H) e.m,ρ.below e.m true,fun c hc=>.inl (h.imm c hc),fun b hb=>?_,h.ext,?_,?_,⟨h.frm.1,fun s=>?_⟩,by rw [hlen];exact Nat.le_refl _,h.defers⟩
 ·rw [← h.map b hb];simp [PMap.below,hb]
 ·exact (b0d h.rel (v:=.junk) (v':=.junk) (c:=.nilFunc) (n:=12) (m:=e.m) rfl (by simp [VRel]) hlow).1
 ·intro b hb
  rw [hlen] at hb
  simp only [PMap.below]
  rw [if_neg (by omega)]
 ·rcases c33 e.m H F s with h1|h1
  ·rw [h1];simp [VRel]
  ·rw [h1]
   simp only [e84]
   cases hv:a4z e.m true (a94 (a02 H) e.m 12) (a4d F s) with
   | none=>simp [VRel]
   | some v'=>exact (b0d h.rel hv (h.frm.2 s) hlow).2
theorem Now.drew (h:Now E e N F H I ρ a w):Now E e N F H I ρ a { w with drawn:=w.drawn + 1 }:=by
 have s:SameMem w { w with drawn:=w.drawn + 1 }:=⟨rfl,rfl,rfl,rfl⟩
 exact ⟨h.imm,h.map,h.ext.trans h.imm (s.ext I e.K),h.rel.same s,h.nrel,FRel.mono h.frm (fun v c hv=>VRel.mono (w:=w) (w':={ w with drawn:=w.drawn + 1 }) (fun _ h=>h) (fun _ _=>rfl) v (fun _ _ h=>h) hv),h.low,h.defers⟩
end
/-! ### a loop that is counted -/
theorem c66 {P:Program} {c:Code} {Q:Exit → Act → World → Prop} (Inv:Nat → Act → World → Prop)
 (round:∀ n a w,Inv (n + 1) a w → c.wp P (Exit.then (Inv n) Q) a w) (zero:∀ a w,¬ Inv 0 a w) {n:Nat} {a:Act} {w:World} (h:Inv n a w):(Code.loop c).wp P Q a w:=by
 intro b k cs
 have key:∀ n a w,Inv n a w → ∃ e a' w',Q e a' w' ∧ Arrives P (lone (b.at a (.code c :: .inLoop c :: k)) cs w) b k cs e a' w':=by
  intro n
  induction n with
  | zero=>intro a w h;exact absurd h (zero a w)
  | succ n ih=>
   intro a w hI
   obtain ⟨e,a₁,w₁,hq,harr⟩:=round n a w hI b (.inLoop c :: k) cs
   cases e with
   | normal=>
    obtain ⟨e₂,a₂,w₂,hq₂,harr₂⟩:=ih a₁ w₁ hq
    exact ⟨e₂,a₂,w₂,hq₂,.of_steps (Steps.trans harr (.one step_inLoop)) harr₂⟩
   | exit id=>exact ⟨_,a₁,w₁,hq,.pass (x:=.inLoop c) rfl (fun _ _=>.inl (by simp)) harr⟩
   | goto l=>exact ⟨_,a₁,w₁,hq,.pass (x:=.inLoop c) rfl (fun _ _=>.inl (by simp)) harr⟩
   | ret=>exact ⟨_,a₁,w₁,hq,.pass (x:=.inLoop c) rfl (fun _ _=>.inl (by simp)) harr⟩
   | panic ch=>exact ⟨_,a₁,w₁,hq,.pass (x:=.inLoop c) rfl (fun _ _=>.inl (by simp)) harr⟩
   | outgrown=>exact ⟨_,a₁,w₁,hq,.pass (x:=.inLoop c) rfl (fun _ _=>.inl (by simp)) harr⟩
 obtain ⟨e,a',w',hq,harr⟩:=key n a w h
 exact ⟨e,a',w',hq,.of_steps (.one step_loop) harr⟩
end Go.Ax
/- AxLoc: what an operation looks at: the slots of its operands, the blocks that its operands name. -/
namespace Go.Ax
section
variable {E:Env} {n:Nat} {h h':FHeap}
theorem a7u {x:AV} (k:Nat) (hh:∀ b ∈ a0t x,h b = h' b):a23 h k x = a23 h' k x:=by
 cases x<;>simp only [a0t,List.mem_singleton,forall_eq] at hh<;>simp only [a23]
 rw [hh]
theorem c5t {x:AV} (t:TypeId) (hh:∀ b ∈ a0t x,h b = h' b):c07 E h t x = c07 E h' t x:=by
 unfold c07
 generalize E.und t = u
 cases x<;>simp only [a0t,List.mem_singleton,forall_eq] at hh<;>(rcases u with _|d;· rfl)<;>cases d<;>first|rfl|(simp only [hh];done)
theorem c1y {x:AV} (t:TypeId) (hh:∀ b ∈ a0t x,h b = h' b):a6a E h t x = a6a E h' t x:=by
 cases x<;>simp only [a0t,List.mem_singleton,forall_eq] at hh<;>simp only [a6a]
 rw [hh]
theorem b9z {p x:AV} (t:TypeId) (hh:∀ b ∈ a0t p,h b = h' b):a7y E h t p x = a7y E h' t p x:=by
 cases p<;>simp only [a0t,List.mem_singleton,forall_eq] at hh<;>simp only [a7y]
 rw [hh]
theorem c00 {x:AV} (t:TypeId) (lo hi mx:Option AV) (hh:∀ b ∈ a0t x,h b = h' b):a3p E h t x lo hi mx = a3p E h' t x lo hi mx:=by
 unfold a3p
 generalize E.und t = u
 cases x<;>simp only [a0t,List.mem_singleton,forall_eq] at hh<;>(rcases u with _|d;· rfl)<;>cases d<;>first|rfl|(simp only [hh];done)
theorem b1z {x:AV} (t:TypeId) (i:AV) (hh:∀ b ∈ a0t x,h b = h' b):a13 E h t x i = a13 E h' t x i:=by
 unfold a13
 generalize E.und t = u
 cases x<;>simp only [a0t,List.mem_singleton,forall_eq] at hh<;>(rcases u with _|d;· rfl)<;>cases d<;>first|rfl|(simp only [hh];done)
theorem c05 {x:AV} (hh:∀ b ∈ a0t x,h b = h' b):b64 h x = b64 h' x:=by
 cases x<;>simp only [a0t,List.mem_singleton,forall_eq] at hh<;>simp only [b64]
 rw [hh]
theorem b7t {x:AV} (t:TypeId) (k:AV) (ok:Bool) (hh:∀ b ∈ a0t x,h b = h' b):a7v E h t x k ok = a7v E h' t x k ok:=by
 simp only [a7v,c05 hh]
theorem a8n {x:AV} (t:TypeId) (k:AV) (hh:∀ b ∈ a0t x,h b = h' b):b1v E h t x k = b1v E h' t x k:=by
 unfold b1v
 generalize E.und t = u
 cases x<;>simp only [a0t,List.mem_singleton,forall_eq] at hh<;>(rcases u with _|d;· rfl)<;>cases d<;>first|rfl|(simp only [hh];done)
theorem b1i {x:AV} (s v:AV) (hh:∀ b ∈ a0t x,h b = h' b):a4v h x s v = a4v h' x s v:=by
 unfold a4v
 split
 ·rw [hh _ (by simp [a0t])]
 ·rfl
theorem c1x {x:AV} (s:Bool) (hh:∀ b ∈ a0t x,h b = h' b):c5r h x s = c5r h' x s:=by
 unfold c5r
 split
 ·rw [hh _ (by simp [a0t])]
 ·rfl
theorem c08 {x:AV} (s d:TypeId) (hh:∀ b ∈ a0t x,h b = h' b):a67 E h s d x = a67 E h' s d x:=by
 have key:=fun k=>a7u k hh
 unfold a67
 split
 ·rfl
 ·rw [key]
 ·rfl
theorem b7y {s x:AV} (st xt:TypeId) (hs:∀ b ∈ a0t s,h b = h' b) (hx:∀ b ∈ a0t x,h b = h' b):a5e E h n st xt s x = a5e E h' n st xt s x:=by
 cases s<;>simp only [a0t,List.mem_singleton,forall_eq] at hs<;>simp only [a5e,a7u _ hx]
 rw [hs]
theorem c20 {d x:AV} (dt:TypeId) (hs:∀ b ∈ a0t d,h b = h' b) (hx:∀ b ∈ a0t x,h b = h' b):b4g E h dt d x = b4g E h' dt d x:=by
 cases d<;>simp only [a0t,List.mem_singleton,forall_eq] at hs<;>simp only [b4g,a7u _ hx]
 rw [hs]
theorem c0a {x:AV} (t:TypeId) (hh:∀ b ∈ a0t x,h b = h' b):b0q E h t x = b0q E h' t x:=by
 unfold b0q
 generalize E.und t = u
 cases x<;>simp only [a0t,List.mem_singleton,forall_eq] at hh<;>(rcases u with _|d;· rfl)<;>cases d<;>first|rfl|(simp only [hh];done)
theorem c5w (b:Builtin) (ts:List TypeId) (args:List AV) (hh:∀ b ∈ args.flatMap a0t,h b = h' b):d51 E n h b ts args = d51 E n h' b ts args:=by
 unfold d51
 split
 ·rw [c5t _ (fun b hb=>hh b (by simpa using hb))]
 ·rfl
 ·rw [b7y _ _ (fun b hb=>hh b (by simp [hb])) (fun b hb=>hh b (by simp [hb]))]
 ·rw [c20 _ (fun b hb=>hh b (by simp [hb])) (fun b hb=>hh b (by simp [hb]))]
 ·rw [c0a _ (fun b hb=>hh b (by simpa using hb))]
 ·rfl
 ·rfl
 ·rfl
theorem d0f {op:Op} {v:Operand → AV} (hh:∀ b ∈ a7c op v,h b = h' b):aop E n h op v = aop E n h' op v:=by
 cases op<;>simp only [a7c] at hh<;>simp only [aop]
 case load=>rw [c1y _ hh]
 case store=>rw [b9z _ hh]
 case convert=>rw [c08 _ _ hh]
 case slice=>rw [c00 _ _ _ _ hh]
 case indexAddr=>rw [b1z _ _ hh]
 case lookup=>rw [b7t _ _ _ hh]
 case mapUpdate=>simp only [a2o,a8n _ _ hh]
 case insert=>simp only [a2o,a8n _ _ hh]
 case mapEntry=>simp only [b0o,a8n _ _ hh]
 case entryStore=>rw [b1i _ _ hh]
 case next=>rw [c1x _ hh]
 case call c=>
  obtain ⟨callee,args,ts⟩:=c
  cases callee with
  | builtin b=>
   simp only at hh ⊢
   exact c5w _ _ _ (by simpa [List.flatMap_map] using hh)
  | _=>rfl
theorem d0g {op:Op} {v v':Operand → AV} (hv:∀ x ∈ op.operands,v x = v' x):aop E n h op v = aop E n h op v':=by
 have pairs:∀ ps:Array (Nat × Operand),(∀ x ∈ (ps.toList.map (·.2)).toArray,v x = v' x) → (ps.toList.map fun p=>(p.1,v p.2)) = (ps.toList.map fun p=>(p.1,v' p.2)):=fun ps hp=>
  List.map_congr_left fun p hm=>by rw [hp p.2 (by simp only [List.mem_toArray,List.mem_map];exact ⟨p,hm,rfl⟩)]
 cases op<;>simp only [Op.operands] at hv<;>simp only [aop]
 case build t ps=>rw [pairs ps hv]
 case buildSlice t n ps=>rw [pairs ps hv]
 case makeFunc fn first captured=>
  rw [List.map_congr_left (l:=first.toList) fun x hx=>hv x (by simp only [Array.mem_append];exact .inl (by simpa using hx)),List.map_congr_left (l:=captured.toList) fun x hx=>hv x (by simp only [Array.mem_append];exact .inr (by simpa using hx))]
 case call c=>
  obtain ⟨callee,args,ts⟩:=c
  cases callee with
  | builtin b=>
   simp only
   rw [List.map_congr_left (l:=args.toList) fun x hx=>hv x (by simp only [Call.operands];simp;simpa using hx)]
  | _=>rfl
 case makeMap t r=>cases r<;>simp_all
 case slice t x lo hi mx=>cases lo<;>cases hi<;>cases mx<;>simp_all
 all_goals (first|rfl|(simp_all;done))
end
end Go.Ax
/- AxOrd: operations in any order that their edges allow: what the executed ones amount to, in text order. -/
namespace Go.Ax
/-! ### lists that grow at the front, numbered from the back -/
section
variable {R V:Type}
def nth:List R → Nat → Option R
 | [],_=>none
 | r :: rest,j=>if j = rest.length then some r else nth rest j
def pre:List R → Nat → List R
 | [],_=>[]
 | _ :: rest,i=>if i = rest.length then rest else pre rest i
theorem b30:∀ {l:List R} {i:Nat} {r:R},nth l i = some r → i < l.length
 | [],i,r,h=>by simp [nth] at h
 | a :: rest,i,r,h=>by
  unfold nth at h
  split at h
  ·simp;omega
  ·have:=b30 h;simp;omega
theorem c2n:∀ {l:List R} {i:Nat},i < l.length → ∃ r,nth l i = some r
 | [],i,h=>by simp at h
 | a :: rest,i,h=>by
  unfold nth
  split
  ·exact ⟨a,rfl⟩
  ·exact c2n (by simp at h;omega)
theorem b26 {a:R} {l:List R} {i:Nat} {r:R} (h:nth l i = some r):nth (a :: l) i = some r:=by
 have:=b30 h
 unfold nth;rw [if_neg (by omega)];exact h
theorem b6u (a:R) (l:List R):nth (a :: l) l.length = some a:=by simp [nth]
def gL (o:R → Nat → Option V) (g0:Nat → V) (S:Nat → Bool):List R → Nat → V
 | []=>g0
 | r :: rest=>if S rest.length then fun s=>(o r s).getD (gL o g0 S rest s) else gL o g0 S rest
def a3y:Nat → Bool:=fun _=>true
def b8p (S:Nat → Bool) (i:Nat):Nat → Bool:=fun j=>j == i || S j
variable {o:R → Nat → Option V} {g0:Nat → V} {S:Nat → Bool}
theorem c35 {s:Nat}:∀ {l:List R},(∀ j r',nth l j = some r' → (o r' s).isSome → S j = true) → gL o g0 S l s = gL o g0 a3y l s
 | [],_=>rfl
 | a :: rest,h=>by
  have ih:=c35 (l:=rest) (fun j r' hj=>h j r' (b26 hj))
  simp only [gL,a3y]
  cases ha:o a s with
  | none=>split<;>simp [ha,ih]
  | some v=>rw [h _ a (b6u a rest) (by simp [ha])];simp [ha]
theorem d93 {i s:Nat} {r:R}:∀ {l:List R},nth l i = some r → (∀ j r',nth l j = some r' → (o r' s).isSome → (j < i → S j = true) ∧ (i ≤ j → S j = false)) →
 gL o g0 S l s = gL o g0 a3y (pre l i) s
 | [],h,_=>by simp [nth] at h
 | a :: rest,h,hs=>by
  have hhead:i ≤ rest.length → gL o g0 S (a :: rest) s = gL o g0 S rest s:=by
   intro hi
   simp only [gL]
   split
   ·rename_i hS
    cases ha:o a s with
    | none=>simp [ha]
    | some v=>rw [(hs _ a (b6u a rest) (by simp [ha])).2 hi] at hS;cases hS
   ·rfl
  unfold nth at h
  split at h
  ·rename_i hi
   subst hi
   rw [hhead (Nat.le_refl _)]
   simp only [pre,if_true]
   exact c35 (fun j r' hj ho=>(hs j r' (b26 hj) ho).1 (b30 hj))
  ·rename_i hi
   have:=b30 h
   rw [hhead (by omega)]
   simp only [pre,if_neg hi]
   exact d93 h (fun j r' hj ho=>hs j r' (b26 hj) ho)
theorem b7c {S':Nat → Bool}:∀ {l:List R},(∀ j,j < l.length → S j = S' j) → gL o g0 S l = gL o g0 S' l
 | [],_=>rfl
 | a :: rest,h=>by
  simp only [gL]
  rw [h rest.length (by simp),b7c (l:=rest) (fun j hj=>h j (by simp;omega))]
theorem c96 {i:Nat} {r:R}:∀ {l:List R},nth l i = some r → S i = false → (∀ k r',nth l k = some r' → i < k → S k = true → ∀ s,(o r s).isSome → o r' s = none) →
 gL o g0 (b8p S i) l = fun s=>(o r s).getD (gL o g0 S l s)
 | [],h,_,_=>by simp [nth] at h
 | a :: rest,h,hS,hk=>by
  unfold nth at h
  split at h
  ·rename_i hi
   cases h
   have:gL o g0 (b8p S i) rest = gL o g0 S rest:=b7c fun j hj=>by simp [b8p];omega
   simp only [gL,this]
   subst hi
   simp [b8p,hS]
  ·rename_i hi
   have hlt:=b30 h
   have ih:=c96 h hS (fun k r' hr=>hk k r' (b26 hr))
   simp only [gL,ih]
   have hp:b8p S i rest.length = S rest.length:=by simp [b8p];intro he;omega
   rw [hp]
   split
   ·rename_i hSr
    funext s
    cases hr:o r s with
    | none=>simp
    | some v=>rw [hk _ a (b6u a rest) hlt hSr s (by simp [hr])];simp
   ·rfl
end
/-! ### edges -/
def a7w (all:List Oper) (S:Nat → Bool) (j:Nat):Prop:=∀ o,all[j]? = some o → ∀ e ∈ o.after.toList,Region.binds .any e = true → S e.on = true
theorem b3h {all:List Oper} {S:Nat → Bool} (hS:∀ j,S j = true → a7w all S j) (i:Nat):∀ n j,a7w all S j → b07 all i n j = true → S i = true
 | 0,j,_,h=>by simp [b07] at h
 | n + 1,j,hj,h=>by
  unfold b07 at h
  split at h
  ·rename_i o ho
   simp only [List.any_eq_true,Bool.and_eq_true,Bool.or_eq_true,beq_iff_eq] at h
   obtain ⟨e,he,hb,h⟩:=h
   have hon:=hj o ho e he hb
   rcases h with rfl|h
   ·exact hon
   ·exact b3h hS i n e.on (hS _ hon) h
  ·cases h
theorem b5e {all:List Oper} {S:Nat → Bool} (hS:∀ j,S j = true → a7w all S j) {i j:Nat} (hj:a7w all S j) (h:a46 all i j = true):S i = true:=by
 unfold a46 at h
 rw [Bool.or_eq_true] at h
 rcases h with h|h
 ·unfold d64 at h
  split at h
  ·rename_i o ho
   simp only [List.any_eq_true,Bool.and_eq_true,beq_iff_eq] at h
   obtain ⟨e,he,hb,rfl⟩:=h
   exact hj o ho e he hb
  ·cases h
 ·exact b3h hS i _ j hj h
theorem b8w {all:List Oper} {j:Nat} {y:LogE}:∀ {l:List LogE},logOk.logRow all j y l.length l = true → ∀ i x,nth l i = some x → x.clash y = true → a46 all i j = true
 | [],_,i,x,h,_=>by simp [nth] at h
 | a :: rest,hl,i,x,h,hc=>by
  simp only [List.length_cons,logOk.logRow,Bool.and_eq_true,Bool.or_eq_true,Bool.not_eq_true'] at hl
  unfold nth at h
  split at h
  ·rename_i hi
   cases h;subst hi
   rcases hl.1 with h'|h'
   ·rw [hc] at h';cases h'
   ·exact h'
  ·exact b8w hl.2 i x h hc
theorem b2a {all:List Oper}:∀ {l:List LogE},logOk all l.length l = true → ∀ i j x y,i < j → nth l i = some x → nth l j = some y → x.clash y = true → a46 all i j = true
 | [],_,i,j,x,y,_,h,_,_=>by simp [nth] at h
 | a :: rest,hl,i,j,x,y,hij,hi,hj,hc=>by
  simp only [List.length_cons,logOk,Bool.and_eq_true] at hl
  unfold nth at hj
  split at hj
  ·rename_i hjr
   cases hj;subst hjr
   unfold nth at hi
   rw [if_neg (by omega)] at hi
   exact b8w hl.1 i x hi hc
  ·have:=b30 hj
   unfold nth at hi
   rw [if_neg (by omega)] at hi
   exact b2a hl.2 i j x y hij hi hj hc
/-! ### what is asked of a region's text -/
def b2j (l:List Operand):List Nat:=l.filterMap fun|.tmp t=>some t|_=>none
def looks (all:List Oper) (o:Oper):List Nat:=
 b2j o.op.operands.toList ++ (match o.guard with
  | some (g,_)=>(a2x all g).toList
  | none=>[])
def a5y (all:List Oper) (x y:Oper):Bool:=
 (match x.dst with|some d=>(looks all y).contains d|none=>false) ||
 (match y.dst with|some d=>(looks all x).contains d|none=>false) ||
 (match x.dst,y.dst with|some d,some d'=>d == d'|_,_=>false)
def b41 (all:List Oper) (j:Nat) (y:Oper):Nat → List Oper → Bool
 | _,[]=>true
 | i,x :: r=>(Nat.ble j i || !(a5y all x y) || a46 all i j) && b41 all j y (i + 1) r
def b0i (all:List Oper):Nat → List Oper → Bool
 | _,[]=>true
 | j,y :: r=>y.after.toList.all (fun e=>!(Region.binds .any e) || Nat.blt e.on j) && b41 all j y 0 all && b0i all (j + 1) r
def c3h (all:List Oper):Bool:=b0i all 0 all
theorem b5w {all:List Oper} {j:Nat} {y:Oper}:∀ {l:List Oper} {s:Nat},b41 all j y s l = true → ∀ i x,l[i]? = some x → s + i < j → a5y all x y = true → a46 all (s + i) j = true
 | [],s,_,i,x,h,_,_=>by simp at h
 | a :: r,s,hl,0,x,h,hij,hm=>by
  simp only [b41,Bool.and_eq_true,Bool.or_eq_true,Bool.not_eq_true',Nat.ble_eq] at hl
  simp only [List.getElem?_cons_zero,Option.some.injEq] at h
  subst h
  rcases hl.1 with (h|h)|h
  ·omega
  ·rw [hm] at h;cases h
  ·exact h
 | a :: r,s,hl,i + 1,x,h,hij,hm=>by
  simp only [b41,Bool.and_eq_true] at hl
  have:=b5w hl.2 i x (by simpa using h) (by omega) hm
  rw [show s + (i + 1) = s + 1 + i by omega];exact this
theorem b40 {all:List Oper}:∀ {l:List Oper} {s:Nat},b0i all s l = true → ∀ j y,l[j]? = some y →
 (∀ e ∈ y.after.toList,Region.binds .any e = true → e.on < s + j) ∧ ∀ i x,all[i]? = some x → i < s + j → a5y all x y = true → a46 all i (s + j) = true
 | [],s,_,j,y,h=>by simp at h
 | a :: r,s,hl,0,y,h=>by
  simp only [b0i,Bool.and_eq_true,List.all_eq_true,Bool.or_eq_true,Bool.not_eq_true',Nat.blt_eq] at hl
  simp only [List.getElem?_cons_zero,Option.some.injEq] at h
  subst h
  refine ⟨fun e he hb=>(hl.1.1 e he).resolve_left (by simp [hb]),fun i x hx hi hm=>?_⟩
  have:=b5w hl.1.2 i x hx (by omega) hm
  simpa using this
 | a :: r,s,hl,j + 1,y,h=>by
  simp only [b0i,Bool.and_eq_true] at hl
  have:=b40 hl.2 j y (by simpa using h)
  rw [show s + (j + 1) = s + 1 + j by omega];exact this
theorem b0j {all:List Oper} (h:c3h all = true) {j:Nat} {y:Oper} (hy:all[j]? = some y) :
 (∀ e ∈ y.after.toList,Region.binds .any e = true → e.on < j) ∧ ∀ i x,all[i]? = some x → i < j → a5y all x y = true → a46 all i j = true:=by
 have:=b40 h j y hy
 simpa using this
end Go.Ax
/- AxDraw: a region that draws its order: one run in text order stands for a3y order. -/
namespace Go.Ax
theorem d0e {E:Env} {n n':Nat} {h:FHeap} {op:Op} {v:Operand → AV} {x:AV} {e:Eff} (ha:aop E n h op v = some (x,e)) (he:e.fresh = false):aop E n' h op v = some (x,e):=by
 have app:∀ st xt s y,a5e E h n st xt s y = some (x,e) → a5e E h n' st xt s y = some (x,e):=by
  intro st xt s y hy
  unfold a5e at hy ⊢
  simp only [cond_eq_ite] at hy ⊢
  repeat' split at hy
  all_goals first
   | (cases hy;done)
   | (cases hy;simp [Eff.fresh] at he;done)
   | (simp_all;done)
   | (simp_all;rename_i hh;exact hh.2)
 have blt:∀ b ts args,d51 E n h b ts args = some (x,e) → d51 E n' h b ts args = some (x,e):=by
  intro b ts args hb
  unfold d51 at hb ⊢
  split at hb
  all_goals first
   | exact hb
   | exact app _ _ _ _ hb
 cases op
 case alloc t=>
  simp only [aop,e0a,cond_eq_ite] at ha
  repeat' split at ha
  all_goals cases ha
  simp [Eff.fresh] at he
 case box t y=>
  simp only [aop,e0m,cond_eq_ite] at ha
  repeat' split at ha
  all_goals cases ha
  all_goals simp [Eff.fresh] at he
 case buildSlice=>
  simp only [aop,a3g,cond_eq_ite] at ha
  repeat' split at ha
  all_goals cases ha
  all_goals simp [Eff.fresh] at he
 case makeMap=>
  simp only [aop] at ha
  repeat' split at ha
  all_goals cases ha
  all_goals simp [Eff.fresh] at he
 case makeSlice=>
  simp only [aop,a3x,cond_eq_ite] at ha
  repeat' split at ha
  all_goals cases ha
  all_goals simp [Eff.fresh] at he
 case range=>
  simp only [aop,c3t] at ha
  repeat' split at ha
  all_goals cases ha
  all_goals simp [Eff.fresh] at he
 case call c=>
  obtain ⟨callee,args,ts⟩:=c
  cases callee with
  | builtin b=>exact blt _ _ _ ha
  | _=>cases ha
 all_goals exact ha
structure Rec where
 dst:Option Nat
 v:AV
 ov:Nat → Option (Option AObj)
 fresh:Bool
 log:LogE
def fov (r:Rec) (s:Nat):Option AV:=if r.dst = some s then some r.v else none
def hov (r:Rec) (b:Nat):Option (Option AObj):=r.ov b
def cnt (m0:Nat):List Rec → Nat
 | []=>m0
 | r :: rest=>bif r.fresh then cnt m0 rest + 1 else cnt m0 rest
def made (m0:Nat) (S:Nat → Bool):List Rec → Nat → Prop
 | [],_=>False
 | r :: rest,b=>(S rest.length = true ∧ r.fresh = true ∧ b = cnt m0 rest) ∨ made m0 S rest b
theorem c1c {m0:Nat} {S:Nat → Bool}:∀ {l:List Rec} {b:Nat},made m0 S l b → b < cnt m0 l
 | [],b,h=>h.elim
 | r :: rest,b,h=>by
  simp only [cnt,cond_eq_ite]
  rcases h with ⟨_,hf,rfl⟩|h
  ·rw [if_pos hf];omega
  ·have:=c1c h;split<;>omega
theorem c9v {m0:Nat} {i:Nat} {r:Rec}:∀ {l:List Rec},nth l i = some r → cnt m0 (pre l i) ≤ cnt m0 l ∧ (r.fresh = true → cnt m0 (pre l i) < cnt m0 l)
 | [],h=>by simp [nth] at h
 | a :: rest,h=>by
  unfold nth at h
  simp only [pre,cnt,cond_eq_ite]
  split at h
  ·rename_i hi
   cases h
   rw [if_pos hi]
   refine ⟨by split<;>omega,fun hf=>?_⟩
   rw [if_pos hf];omega
  ·rename_i hi
   have:=c9v (m0:=m0) h
   rw [if_neg hi]
   refine ⟨by split<;>omega,fun hf=>by have:=this.2 hf;split<;>omega⟩
theorem c81 {m0:Nat} {S:Nat → Bool} {i:Nat} {r:Rec}:∀ {l:List Rec},nth l i = some r → r.fresh = true → made m0 S l (cnt m0 (pre l i)) → S i = true
 | [],h,_,_=>by simp [nth] at h
 | a :: rest,h,hf,hm=>by
  unfold nth at h
  split at h
  ·rename_i hi
   cases h
   simp only [pre,if_pos hi] at hm
   rcases hm with ⟨hS,_⟩|hm
   ·rw [hi];exact hS
   ·exact absurd (c1c hm) (Nat.lt_irrefl _)
  ·rename_i hi
   simp only [pre,if_neg hi] at hm
   have:=(c9v (m0:=m0) h).2 hf
   rcases hm with ⟨_,_,he⟩|hm
   ·omega
   ·exact c81 h hf hm
theorem b8v {m0:Nat} {S:Nat → Bool} {i:Nat} {r:Rec} {b:Nat}:∀ {l:List Rec},nth l i = some r → (made m0 S l b ∨ (r.fresh = true ∧ b = cnt m0 (pre l i))) → made m0 (b8p S i) l b
 | [],h,_=>by simp [nth] at h
 | a :: rest,h,hb=>by
  have mono:∀ {l:List Rec},made m0 S l b → made m0 (b8p S i) l b:=by
   intro l
   induction l with
   | nil=>exact fun h=>h
   | cons a rest ih=>exact fun h=>h.imp (fun ⟨h1,h2⟩=>⟨by simp [b8p,h1],h2⟩) ih
  unfold nth at h
  rcases hb with hb|⟨hf,hb⟩
  ·exact mono hb
  ·split at h
   ·rename_i hi
    cases h
    simp only [pre,if_pos hi] at hb
    exact .inl ⟨by simp [b8p,hi],hf,hb⟩
   ·rename_i hi
    simp only [pre,if_neg hi] at hb
    exact .inr (b8v h (.inr ⟨hf,hb⟩))
structure DNow (E:Env) (e:Entry) (N m0:Nat) (C:Nat → Prop) (f:Nat → AV) (h:FHeap) (I:Nat → Prop) (ρ:PMap) (a:Act) (w:World):Prop where
 imm:∀ c,e.I c → I c
 map:∀ b,b < e.m → ρ b = e.ρ b
 ext:Ext e.I e.K e.w w
 rel:HRel E.G I e.K ρ h w
 nrel:∀ b,m0 ≤ b → ¬ C b → ρ b = none
 fin:∃ M,NRel ρ M
 size:a.tmps.size = N
 frm:∀ s,VRel I w ρ (f s) (a.tmps.getD s undef)
 defers:a.defers = e.defers
def opvf (E:Env) (f:Nat → AV):Operand → AV
 | .tmp t=>f t
 | .const v=>c3k v
 | .global g=>match E.G g with|some cs=>.iptr cs|none=>.junk
 | .func f=>.func (.func f) [] []
section
variable {E:Env} {e:Entry} {N m0:Nat} {C:Nat → Prop} {f:Nat → AV} {h:FHeap} {I:Nat → Prop} {ρ:PMap} {a:Act} {w:World}
theorem DNow.opvf (d:DNow E e N m0 C f h I ρ a w) (x:Operand):VRel I w ρ (opvf E f x) (a.eval x):=by
 cases x with
 | tmp t=>exact d.frm t
 | const v=>exact b9n v
 | global g=>
  simp only [Ax.opvf,Act.eval]
  cases hg:E.G g with
  | none=>simp [VRel]
  | some cs=>
   obtain ⟨h1,h2⟩:=d.rel.glob g cs hg
   simp only [VRel]
   exact ⟨g,0,rfl,h1,h2⟩
 | func f=>simp only [Ax.opvf,Act.eval,VRel];exact ⟨#[],#[],rfl,by simp [VRels],by simp [VRels]⟩
theorem c4n {t:Nat} {l:List Operand} (h:Operand.tmp t ∈ l):t ∈ b2j l:=by
 simp only [b2j,List.mem_filterMap]
 exact ⟨_,h,rfl⟩
theorem b8s {F:Frm} {l:List Operand} (hf:∀ s ∈ b2j l,f s = a4d F s):∀ x ∈ l,opv E F x = opvf E f x:=by
 intro x hx
 cases x with
 | tmp t=>exact (hf t (c4n hx)).symm
 | _=>rfl
theorem b2u {I':Nat → Prop} {w':World} {ρ':PMap} (hv:∀ (v:AV) (c:Value),VRel I w ρ v c → VRel I' w' ρ' v c) (hsz:a.tmps.size = N) (hf:∀ s,VRel I w ρ (f s) (a.tmps.getD s undef)) {d:Option Nat}
 (hd:a79 N d = true) {v:AV} {c:Value} (hc:VRel I' w' ρ' v c):∀ s,VRel I' w' ρ' ((if d = some s then some v else none).getD (f s)) ((a.put d c).tmps.getD s undef):=by
 intro s
 cases d with
 | none=>simpa [Act.put] using hv _ _ (hf s)
 | some d=>
  have hlt:d < N:=by simpa [a79,Nat.blt_eq] using hd
  simp only [Act.put,Array.getD_eq_getD_getElem?,Array.getElem?_setIfInBounds,hsz,Option.some.injEq]
  split
  ·subst s;simpa [hlt] using hc
  ·have:=hv _ _ (hf s);simpa [Array.getD_eq_getD_getElem?] using this
theorem a9x {d:Option Nat} {c:Value}:(a.put d c).tmps.size = a.tmps.size:=by cases d<;>simp [Act.put]
theorem a70 {d:Option Nat} {c:Value}:(a.put d c).defers = a.defers:=by cases d<;>rfl
def c60 (n:Nat):Eff → Nat → Option (Option AObj)
 | .none,_=>none
 | .new o,b=>if b = n then some (some o) else none
 | .set b0 o,b=>if b = b0 then some (some o) else none
 | .kill b0 o,b=>if b = n then some (some o) else if b = b0 then some none else none
theorem e3s (h:FHeap) (n:Nat) (e:Eff):h.eff n e = fun b=>(c60 n e b).getD (h b):=by
 funext b
 cases e<;>simp only [FHeap.eff,FHeap.set,c60]
 ·rfl
 ·split<;>rfl
 ·split<;>rfl
 ·split
  ·rfl
  ·split<;>rfl
theorem d9h {H:a05} {e:Eff} (hf:e.fits H.length = true):a02 (b0h H e) = fun b=>(c60 H.length e b).getD (a02 H b):=by
 funext b
 cases e with
 | none=>rfl
 | new o=>
  simp only [b0h,a02,c60]
  split
  ·subst b;simp
  ·rcases Nat.lt_or_ge b H.length with h1|h1
   ·rw [List.getElem?_append_left h1];rfl
   ·rw [List.getElem?_eq_none (by simp;omega),List.getElem?_eq_none (by omega)];rfl
 | set b1 o=>
  have hb1:b1 < H.length:=by simpa [Eff.fits,Nat.blt_eq] using hf
  simp only [b0h,a02,c60,List.getElem?_set]
  split
  ·subst b;simp [hb1]
  ·rename_i hne;rw [if_neg (fun e=>hne e.symm)];rfl
 | kill b1 o=>
  have hb1:b1 < H.length:=by simpa [Eff.fits,Nat.blt_eq] using hf
  simp only [b0h,a02,c60]
  split
  ·subst b;rw [List.getElem?_append_right (by simp)];simp
  ·rcases Nat.lt_or_ge b H.length with h1|h1
   ·rw [List.getElem?_append_left (by simpa using h1),List.getElem?_set]
    split
    ·rename_i hne;subst hne;simp [hb1]
    ·rename_i hne hne2;rw [if_neg (fun e=>hne2 e.symm)];rfl
   ·rw [List.getElem?_eq_none (by simp;omega),if_neg (by omega),List.getElem?_eq_none h1];rfl
theorem c7n {n b:Nat} {e:Eff} (h:(c60 n e b).isSome = true):b ∈ e.keys n:=by
 cases e<;>simp only [c60] at h
 ·simp at h
 ·split at h
  ·subst b;simp [Eff.keys]
  ·simp at h
 ·split at h
  ·subst b;simp [Eff.keys]
  ·simp at h
 ·split at h
  ·subst b;simp [Eff.keys]
  ·split at h
   ·subst b;simp [Eff.keys]
   ·simp at h
end
end Go.Ax
/- AxDraw2: one operation of a region that draws its order. -/
namespace Go.Ax
section
variable {E:Env} {e:Entry} {N m0:Nat}
theorem b1k {hp hp':FHeap} {σ:List Nat} (h:∀ b ∈ σ,hp b = hp' b):a5x hp σ = a5x hp' σ:=by
 unfold a5x
 exact List.map_congr_left fun b hb=>by rw [h b hb]
def c3x (E:Env) (e:Entry) (N m0 n:Nat) (o:Oper) (fp:Nat → AV) (hp:FHeap) (v:AV) (ov:Nat → Option (Option AObj)) (fresh:Bool) (l:LogE):Prop:=
 ∀ {C:Nat → Prop} {f:Nat → AV} {h:FHeap} {I:Nat → Prop} {ρ:PMap} {a:Act} {w:World},DNow E e N m0 C f h I ρ a w → (∀ s ∈ b2j o.op.operands.toList,f s = fp s) → (∀ b ∈ l.needs,h b = hp b) → (fresh = true → ¬ C n) →
  ∀ {K:Act → World → Prop} {Q:Exit → Act → World → Prop},(∀ I' ρ' a' w',DNow E e N m0 (fun b=>C b ∨ (fresh = true ∧ b = n)) (fun s=>((if o.dst = some s then some v else none).getD (f s))) (fun b=>(ov b).getD (h b)) I' ρ' a' w' → K a' w') →
   o.wp E.P a w K Q
theorem d4q (ok:EnvOk E) {F:Frm} {H:a05} {o:Oper} {v:AV} {eff:Eff} (hlow:e.m ≤ m0) (hn0:m0 ≤ H.length) (hd:a79 N o.dst = true) (ha:aop E H.length (a02 H) o.op (opv E F) = some (v,eff)) :
 c3x E e N m0 H.length o (a4d F) (a02 H) v (c60 H.length eff) eff.fresh ⟨a7c o.op (opv E F),eff.keys H.length⟩:=by
 intro C f h I ρ a w hnow hf hh hC K Q hK
 have hops:=b8s (E:=E) hf
 have hops':∀ x ∈ o.op.operands,opv E F x = opvf E f x:=fun x hx=>hops x (by simpa using hx)
 have ha1:aop E H.length h o.op (opvf E f) = some (v,eff):=by
  rw [← d0g hops',d0f (h':=a02 H) hh];exact ha
 obtain ⟨M,hM⟩:=hnow.fin
 obtain ⟨n',hn1,hρ',ha2⟩:∃ n',(eff.fresh = true → n' = H.length) ∧ ρ n' = none ∧ aop E n' h o.op (opvf E f) = some (v,eff):=by
  cases hfr:eff.fresh with
  | true=>exact ⟨H.length,fun _=>rfl,hnow.nrel _ hn0 (hC hfr),ha1⟩
  | false=>exact ⟨M,(by simp),hM _ (Nat.le_refl _),d0e ha1 hfr⟩
 have hnone:h n' = none:=by
  cases hx:h n' with
  | none=>rfl
  | some ob=>
   obtain ⟨m,h1,_⟩:=hnow.rel.live _ _ hx
   rw [hρ'] at h1;cases h1
 obtain ⟨x,w',c,ρ',hrun,hx,step,hv,hm⟩:=d6b ok hnow.rel hnone hρ' ha2 hnow.opvf
 have hov:h.eff n' eff = fun b=>(c60 H.length eff b).getD (h b):=by
  rw [e3s]
  cases hfr:eff.fresh with
  | true=>rw [hn1 hfr]
  | false=>cases eff<;>simp [Eff.fresh] at hfr<;>rfl
 have hmoves:∀ b,(eff.fresh = true → b ≠ H.length) → ρ' b = ρ b:=by
  intro b hb
  cases hfr:eff.fresh with
  | true=>exact hm.1 b (by rw [hn1 hfr];exact hb hfr)
  | false=>rw [hm.2 hfr]
 have hnew:DNow E e N m0 (fun b=>C b ∨ (eff.fresh = true ∧ b = H.length)) (fun s=>((if o.dst = some s then some v else none).getD (f s))) (fun b=>(c60 H.length eff b).getD (h b)) I ρ' (a.put o.dst c) w':=by
  refine ⟨hnow.imm,fun b hb=>?_,hnow.ext.trans hnow.imm step.ext,hov ▸ step.rel,fun b hb hc=>?_,⟨max M (H.length + 1),fun b hb=>?_⟩,by rw [a9x];exact hnow.size,?_,by rw [a70];exact hnow.defers⟩
  ·rw [hmoves b (fun _=>by omega)];exact hnow.map b hb
  ·rw [hmoves b (fun hf he=>hc (.inr ⟨hf,he⟩))];exact hnow.nrel b hb (fun h=>hc (.inl h))
  ·rw [hmoves b (fun _=>by omega)];exact hM b (by omega)
  ·exact b2u (fun v c hv=>step.vrel hv) hnow.size hnow.frm hd hv
 unfold Oper.wp
 rw [hrun]
 rcases hx with rfl|⟨rfl,rfl⟩
 ·rw [Oper.upon_value];exact hK I ρ' _ _ hnew
 ·rw [Oper.upon_skip];exact hK I ρ' _ _ hnew
theorem d01 {g:FuncId} {run:List AV → a05 → Option (AV × a05)} (hrun:b7z E g run) {args:List AV} {H H':a05} {v:AV} {σ:List Nat}
 (hcall:a35 run args H = some (v,H',σ)) (hlen:H'.length = H.length) :
 ∃ ov:Nat → Option (Option AObj),(a02 H' = fun b=>(ov b).getD (a02 H b)) ∧ (∀ b,(ov b).isSome = true → b ∈ σ) ∧
  ∀ {I K:Nat → Prop} {ρ:PMap} {h:FHeap} {w:World} {cargs:List Value},HRel E.G I K ρ h w → (∀ b ∈ σ,h b = a02 H b) → VRels I w ρ args cargs →
   Calls E.P g cargs.toArray w fun en w'=>∃ c I',en = .returned c ∧ (∀ c,I c → I' c) ∧ Ext I K w w' ∧ HRel E.G I' K ρ (fun b=>(ov b).getD (h b)) w' ∧ VRel I' w' ρ v c:=by
 unfold a35 at hcall
 simp only at hcall
 generalize hσ:a2p H a53 (a0e args) [] = σ' at hcall
 rw [cond_eq_ite] at hcall
 split at hcall
 case isFalse=>cases hcall
 rename_i hc
 simp only [Bool.and_eq_true,List.all_eq_true,Nat.blt_eq] at hc
 obtain ⟨hnd,hlt⟩:=hc
 have hnd:=b27 hnd
 split at hcall
 case h_2=>cases hcall
 rename_i v1 H1 hr
 simp only [Option.some.injEq,Prod.mk.injEq] at hcall
 obtain ⟨rfl,rfl,rfl⟩:=hcall
 have hr':run (args.map (ren (a59 σ'))) (a5x (a02 H) σ') = some (v1,H1):=hr
 have hH1:H1.length ≤ σ'.length:=by
  simp only [List.length_append,a18,List.length_map,List.length_drop] at hlen;omega
 refine ⟨fun b=>(σ'.idxOf? b).map fun j=>(a02 H1 j).map (a0v (a1d σ' H.length)),?_,?_,?_⟩
 ·funext b
  simp only [a02]
  rcases Nat.lt_or_ge b H.length with hb|hb
  ·rw [List.getElem?_append_left (by rw [a18];exact hb),a7i]
   simp only [Nat.zero_add]
   rw [List.getElem?_eq_getElem hb]
   cases hx:σ'.idxOf? b<;>simp [a02]
  ·rw [List.getElem?_eq_none (by simp only [List.length_append,a18,List.length_map,List.length_drop];omega),List.getElem?_eq_none hb]
   cases hx:σ'.idxOf? b with
   | none=>rfl
   | some j=>
    have:=hlt b (List.mem_of_getElem? (a1f hx))
    omega
 ·intro b hb
  dsimp only at hb
  cases hx:σ'.idxOf? b with
  | none=>rw [hx] at hb;simp at hb
  | some j=>exact List.mem_of_getElem? (a1f hx)
 ·intro I K ρ h w cargs rel hh ha
  have hr2:run (args.map (ren (a59 σ'))) (a5x h σ') = some (v1,H1):=by rw [b1k hh];exact hr'
  refine (b7o hrun hr2 rel hnd ha).mono ?_
  rintro en w' ⟨c,I1,ρ1,rfl,hret,hv⟩
  have hback:∀ j b m,a1d σ' H.length j = some b → ρ1 j = some m → ρ b = some m:=by
   intro j b m hj hm
   rcases Nat.lt_or_ge j σ'.length with hjl|hjl
   ·simp only [a1d] at hj
    rw [cond_eq_ite,if_pos (by simpa [Nat.blt_eq] using hjl)] at hj
    have:=hret.map j hjl
    rw [hm,hj] at this
    exact this.symm
   ·rw [hret.nrel j (by omega)] at hm;cases hm
  refine ⟨c,I1,rfl,hret.imm,hret.ext.keepLess (fun c hc=>.inl hc),?_,VRel.ren hback v1 hv⟩
  refine b7r rel hnd hret (fun _ _ h=>h) hback (fun b m hb=>.inl hb) ?_
  intro b o hb
  dsimp only at hb
  cases hx:σ'.idxOf? b with
  | none=>rw [hx] at hb;exact .inl ⟨b17 hx,hb⟩
  | some j=>
   rw [hx] at hb
   simp only [Option.map_some,Option.getD_some] at hb
   obtain ⟨o1,ho1,rfl⟩:=a0b hb
   have hσj:=a1f hx
   refine .inr ⟨j,o1,?_,ho1,rfl⟩
   simp only [a1d]
   rw [cond_eq_ite,if_pos (by simpa [Nat.blt_eq] using (List.getElem?_eq_some_iff.1 hσj).1)]
   exact hσj
theorem d4g {g:FuncId} {run:List AV → a05 → Option (AV × a05)} (hrun:b7z E g run) {args:List AV} {H H':a05} {v:AV} {σ:List Nat}
 (hcall:a35 run args H = some (v,H',σ)) (hlen:H'.length = H.length + 1) :
 ∃ ov:Nat → Option (Option AObj),(a02 H' = fun b=>(ov b).getD (a02 H b)) ∧ (∀ b,(ov b).isSome = true → b ∈ σ ++ [H.length]) ∧
  ∀ {I K:Nat → Prop} {ρ:PMap} {h:FHeap} {w:World} {cargs:List Value},HRel E.G I K ρ h w → ρ H.length = none → (∀ b ∈ σ,h b = a02 H b) → VRels I w ρ args cargs →
   Calls E.P g cargs.toArray w fun en w'=>∃ c I' ρ',en = .returned c ∧ (∀ c,I c → I' c) ∧ Ext I K w w' ∧ (∀ b,b ≠ H.length → ρ' b = ρ b) ∧ HRel E.G I' K ρ' (fun b=>(ov b).getD (h b)) w' ∧ VRel I' w' ρ' v c:=by
 unfold a35 at hcall
 simp only at hcall
 generalize hσ:a2p H a53 (a0e args) [] = σ' at hcall
 rw [cond_eq_ite] at hcall
 split at hcall
 case isFalse=>cases hcall
 rename_i hc
 simp only [Bool.and_eq_true,List.all_eq_true,Nat.blt_eq] at hc
 obtain ⟨hnd,hlt⟩:=hc
 have hnd:=b27 hnd
 split at hcall
 case h_2=>cases hcall
 rename_i v1 H1 hr
 simp only [Option.some.injEq,Prod.mk.injEq] at hcall
 obtain ⟨rfl,rfl,rfl⟩:=hcall
 have hr':run (args.map (ren (a59 σ'))) (a5x (a02 H) σ') = some (v1,H1):=hr
 have hH1:H1.length = σ'.length + 1:=by
  simp only [List.length_append,a18,List.length_map,List.length_drop] at hlen;omega
 refine ⟨fun b=>if b = H.length then some ((a02 H1 σ'.length).map (a0v (a1d σ' H.length))) else (σ'.idxOf? b).map fun j=>(a02 H1 j).map (a0v (a1d σ' H.length)),?_,?_,?_⟩
 ·funext b
  simp only [a02]
  rcases Nat.lt_or_ge b H.length with hb|hb
  ·rw [List.getElem?_append_left (by rw [a18];exact hb),a7i,if_neg (by omega)]
   simp only [Nat.zero_add]
   rw [List.getElem?_eq_getElem hb]
   cases hx:σ'.idxOf? b<;>simp [a02]
  ·rw [List.getElem?_append_right (by rw [a18];exact hb),a18,List.getElem?_map,List.getElem?_drop]
   by_cases he:b = H.length
   ·subst he
    rw [if_pos rfl,Nat.sub_self,Nat.add_zero]
    cases hx:H1[σ'.length]? with
    | none=>simp [hx]
    | some ob=>simp [hx]
   ·rw [if_neg he,List.getElem?_eq_none (by omega),List.getElem?_eq_none hb]
    cases hx:σ'.idxOf? b with
    | none=>rfl
    | some j=>
     have:=hlt b (List.mem_of_getElem? (a1f hx))
     omega
 ·intro b hb
  dsimp only at hb
  by_cases he:b = H.length
  ·subst he;simp
  ·rw [if_neg he] at hb
   cases hx:σ'.idxOf? b with
   | none=>rw [hx] at hb;simp at hb
   | some j=>exact List.mem_append_left _ (List.mem_of_getElem? (a1f hx))
 ·intro I K ρ h w cargs rel hn hh ha
  have hr2:run (args.map (ren (a59 σ'))) (a5x h σ') = some (v1,H1):=by rw [b1k hh];exact hr'
  refine (b7o hrun hr2 rel hnd ha).mono ?_
  rintro en w' ⟨c,I1,ρ1,rfl,hret,hv⟩
  have hback:∀ j b m,a1d σ' H.length j = some b → ρ1 j = some m → (if b = H.length then ρ1 σ'.length else ρ b) = some m:=by
   intro j b m hj hm
   simp only [a1d] at hj
   rw [cond_eq_ite] at hj
   split at hj
   ·rename_i hjl
    have hjl:j < σ'.length:=by simpa [Nat.blt_eq] using hjl
    have hb:=hlt b (List.mem_of_getElem? hj)
    rw [if_neg (by omega)]
    have:=hret.map j hjl
    rw [hm,hj] at this
    exact this.symm
   ·rename_i hjl
    have hjl:σ'.length ≤ j:=by simpa [Nat.blt_eq] using hjl
    cases hj
    by_cases he:j = σ'.length
    ·subst he;rw [if_pos (by omega)];exact hm
    ·rw [hret.nrel j (by omega)] at hm;cases hm
  have hold:∀ b m,ρ b = some m → (if b = H.length then ρ1 σ'.length else ρ b) = some m:=by
   intro b m hb
   rw [if_neg (fun e=>by subst e;rw [hn] at hb;cases hb)];exact hb
  refine ⟨c,I1,fun b=>if b = H.length then ρ1 σ'.length else ρ b,rfl,hret.imm,hret.ext.keepLess (fun c hc=>.inl hc),fun b hb=>if_neg hb,?_,VRel.ren hback v1 hv⟩
  refine b7r rel hnd hret hold hback ?_ ?_
  ·intro b m hb
   split at hb
   ·exact .inr ⟨_,hb⟩
   ·exact .inl hb
  intro b o hb
  dsimp only at hb
  by_cases he:b = H.length
  ·subst he
   rw [if_pos rfl,Option.getD_some] at hb
   obtain ⟨o1,ho1,rfl⟩:=a0b hb
   refine .inr ⟨σ'.length,o1,?_,ho1,rfl⟩
   simp only [a1d]
   rw [cond_eq_ite,if_neg (by simp [Nat.blt_eq]),Nat.sub_self,Nat.add_zero]
  rw [if_neg he] at hb
  cases hx:σ'.idxOf? b with
  | none=>rw [hx] at hb;exact .inl ⟨b17 hx,hb⟩
  | some j=>
   rw [hx] at hb
   simp only [Option.map_some,Option.getD_some] at hb
   obtain ⟨o1,ho1,rfl⟩:=a0b hb
   have hσj:=a1f hx
   refine .inr ⟨j,o1,?_,ho1,rfl⟩
   simp only [a1d]
   rw [cond_eq_ite,if_pos (by simpa [Nat.blt_eq] using (List.getElem?_eq_some_iff.1 hσj).1)]
   exact hσj
theorem c6h (ok:EnvOk E) {call:FuncId → List AV → a05 → Option (AV × a05)} (hcall:a3l E call) {F:Frm} {H H':a05} {o:Oper} {v:AV} {l:LogE} (hlow:e.m ≤ m0) (hn0:m0 ≤ H.length)
 (hs:a11 E true call F H o.op = some (v,H',l)) (hd:a79 N o.dst = true) :
 ∃ ov fresh,(a02 H' = fun b=>(ov b).getD (a02 H b)) ∧ H'.length = (bif fresh then H.length + 1 else H.length) ∧ (∀ b,(ov b).isSome = true → b ∈ l.keys) ∧ c3x E e N m0 H.length o (a4d F) (a02 H) v ov fresh l:=by
 unfold a11 at hs
 split at hs
 ·rename_i f args ats hop
  split at hs
  case h_2=>cases hs
  rename_i v' H1 σ hcv
  cases hs
  unfold a0c at hcv
  split at hcv
  case h_2=>cases hcv
  rename_i g fs cs hfv
  -- the operands in another state
  have agree:∀ {C:Nat → Prop} {f':Nat → AV} {h:FHeap} {I:Nat → Prop} {ρ:PMap} {a:Act} {w:World},DNow E e N m0 C f' h I ρ a w → (∀ s ∈ b2j o.op.operands.toList,f' s = a4d F s) →
   ∃ fs' cs',a.eval f = .func (.func g) fs' cs' ∧ VRels I w ρ (fs ++ args.toList.map (opv E F) ++ cs) (fs' ++ args.map a.eval ++ cs').toList:=by
   intro C f' h I ρ a w hnow hf
   have hops:=b8s (E:=E) hf
   rw [hop] at hops
   have hf1:=hnow.opvf f
   rw [← hops f (by simp [Op.operands,Call.operands]),hfv] at hf1
   simp only [VRel] at hf1
   obtain ⟨fs',cs',hfe,hfs,hcs⟩:=hf1
   have hargs:args.toList.map (opv E F) = args.toList.map (opvf E f'):=List.map_congr_left fun x hx=>hops x (by simp [Op.operands,Call.operands];exact .inr (by simpa using hx))
   refine ⟨fs',cs',hfe,?_⟩
   simp only [Array.toList_append,Array.toList_map]
   rw [hargs]
   exact VRels.append (VRels.append hfs (a6r hnow.opvf args.toList)) hcs
  rw [cond_eq_ite] at hcv
  split at hcv
  ·rename_i hext
   split at hcv
   case h_2=>cases hcv
   rename_i v'' hv''
   cases hcv
   refine ⟨fun _=>none,false,rfl,rfl,by simp,?_⟩
   intro C f' h I ρ a w hnow hf hh hC K Q hK
   obtain ⟨fs',cs',hfe,hargs⟩:=agree hnow hf
   obtain ⟨c,hrun,hvc⟩:=b1u (E:=E) (w:=w) ok hext hv'' hargs
   have harr:(fs' ++ args.map a.eval ++ cs').toList.toArray = fs' ++ args.map a.eval ++ cs':=by apply Array.ext';simp
   rw [harr] at hrun
   unfold Oper.wp
   rw [b0g hop hfe,hrun,Oper.upon_value]
   refine hK I ρ _ _ ⟨hnow.imm,hnow.map,hnow.ext,hnow.rel,fun b hb hc=>hnow.nrel b hb (fun h=>hc (.inl h)),hnow.fin,by rw [a9x];exact hnow.size,?_,by rw [a70];exact hnow.defers⟩
   exact b2u (fun _ _ h=>h) hnow.size hnow.frm hd hvc
  ·rw [cond_eq_ite] at hcv
   split at hcv
   case isFalse=>cases hcv
   rename_i hg
   split at hcv
   case h_2=>cases hcv
   rename_i v'' H2 σ2 hloc
   rw [cond_eq_ite] at hcv
   split at hcv
   case isTrue=>cases hcv
   rename_i hlen
   cases hcv
   by_cases hnew:H'.length = H.length + 1
   ·have hk:b93 (a9w E (opv E F f) H H' σ) σ H.length H'.length = σ ++ [H.length]:=by
     unfold b93
     rw [hnew,cond_eq_ite,if_neg (by rw [Nat.beq_eq];omega)]
    obtain ⟨ov,h1,h2,h3⟩:=d4g (hcall g) hloc hnew
    refine ⟨ov,true,h1,hnew,by rw [hk];exact h2,?_⟩
    intro C f' h I ρ a w hnow hf hh hC K Q hK
    obtain ⟨fs',cs',hfe,hargs⟩:=agree hnow hf
    unfold Oper.wp
    rw [b0g hop hfe,a6l ok hg,Oper.upon_enter]
    have hc:=h3 hnow.rel (hnow.nrel _ hn0 (hC rfl)) hh hargs
    have harr:(fs' ++ args.map a.eval ++ cs').toList.toArray = fs' ++ args.map a.eval ++ cs':=by apply Array.ext';simp
    rw [harr] at hc
    refine hc.mono ?_
    rintro en w' ⟨c,I',ρ',rfl,hI,hext,hρ',hrel,hvc⟩
    obtain ⟨M,hM⟩:=hnow.fin
    have hold:∀ b m,ρ b = some m → ρ' b = some m:=by
     intro b m hb
     rw [hρ' b (fun e=>by rw [e,hnow.nrel _ hn0 (hC rfl)] at hb;cases hb)];exact hb
    refine hK I' ρ' _ _ ⟨fun c hc=>hI c (hnow.imm c hc),fun b hb=>?_,hnow.ext.trans hnow.imm hext,hrel,fun b hb hc=>?_,⟨max M (H.length + 1),fun b hb=>?_⟩,by rw [a9x];exact hnow.size,?_,by rw [a70];exact hnow.defers⟩
    ·rw [hρ' b (by omega)];exact hnow.map b hb
    ·rw [hρ' b (fun e=>hc (.inr ⟨rfl,e⟩))];exact hnow.nrel b hb (fun h=>hc (.inl h))
    ·rw [hρ' b (by omega)];exact hM b (by omega)
    ·exact b2u (fun v c hv=>VRel.mono hI (fun c hc=>hext.keep c (.inl hc)) v hold hv) hnow.size hnow.frm hd hvc
   have hlen:H'.length = H.length:=by
    simp only [Bool.true_and,Bool.not_eq_true',Bool.not_eq_false,Bool.or_eq_true,Nat.beq_eq] at hlen
    rcases hlen with h|h
    ·exact h
    ·exact absurd h hnew
   have hk:b93 (a9w E (opv E F f) H H' σ) σ H.length H'.length = (bif a9w E (opv E F f) H H' σ then [] else σ):=by
    unfold b93
    rw [hlen,cond_eq_ite,if_pos (by rw [Nat.beq_eq])]
   rw [hk]
   obtain ⟨ov,h1,h2,h3⟩:=d01 (hcall g) hloc hlen
   obtain ⟨ov,h1,h2,h3⟩:∃ ov:Nat → Option (Option AObj),(a02 H' = fun b=>(ov b).getD (a02 H b)) ∧ (∀ b,(ov b).isSome = true → b ∈ (bif a9w E (opv E F f) H H' σ then [] else σ)) ∧
    ∀ {I K:Nat → Prop} {ρ:PMap} {h:FHeap} {w:World} {cargs:List Value},HRel E.G I K ρ h w → (∀ b ∈ σ,h b = a02 H b) → VRels I w ρ (fs ++ args.toList.map (opv E F) ++ cs) cargs →
     Calls E.P g cargs.toArray w fun en w'=>∃ c I',en = .returned c ∧ (∀ c,I c → I' c) ∧ Ext I K w w' ∧ HRel E.G I' K ρ (fun b=>(ov b).getD (h b)) w' ∧ VRel I' w' ρ v c:=by
    cases hro:a9w E (opv E F f) H H' σ with
    | false=>exact ⟨ov,h1,h2,h3⟩
    | true=>
     have hsame:∀ b ∈ σ,a02 H b = a02 H' b:=by
      rw [hfv] at hro
      simp only [a9w,Bool.and_eq_true,List.all_eq_true] at hro
      exact fun b hb=>d1u _ _ (hro.2 b hb)
     have hno:∀ b x,ov b = some x → x = a02 H b:=by
      intro b x hx
      have e1:=hsame b (h2 b (by rw [hx];rfl))
      rw [h1] at e1
      simp only [hx,Option.getD_some] at e1
      exact e1.symm
     refine ⟨fun _=>none,?_,fun b hb=>by simp at hb,?_⟩
     ·rw [h1];funext b
      cases hx:ov b with
      | none=>rfl
      | some x=>simp only [Option.getD_some,Option.getD_none];exact hno b x hx
     ·intro I K ρ h w cargs hrel hh ha
      have e:(fun b=>(ov b).getD (h b)) = h:=by
       funext b
       cases hx:ov b with
       | none=>rfl
       | some x=>simp only [Option.getD_some];rw [hno b x hx,hh b (h2 b (by rw [hx];rfl))]
      refine (h3 hrel hh ha).mono ?_
      rintro en w' ⟨c,I',r1,r2,r3,r4,r5⟩
      rw [e] at r4
      exact ⟨c,I',r1,r2,r3,by simpa using r4,r5⟩
   refine ⟨ov,false,h1,hlen,h2,?_⟩
   intro C f' h I ρ a w hnow hf hh hC K Q hK
   obtain ⟨fs',cs',hfe,hargs⟩:=agree hnow hf
   unfold Oper.wp
   rw [b0g hop hfe,a6l ok hg,Oper.upon_enter]
   have hc:=h3 hnow.rel hh hargs
   have harr:(fs' ++ args.map a.eval ++ cs').toList.toArray = fs' ++ args.map a.eval ++ cs':=by apply Array.ext';simp
   rw [harr] at hc
   refine hc.mono ?_
   rintro en w' ⟨c,I',rfl,hI,hext,hrel,hvc⟩
   refine hK I' ρ _ _ ⟨fun c hc=>hI c (hnow.imm c hc),hnow.map,hnow.ext.trans hnow.imm hext,hrel,fun b hb hc=>hnow.nrel b hb (fun h=>hc (.inl h)),hnow.fin,by rw [a9x];exact hnow.size,?_,by rw [a70];exact hnow.defers⟩
   exact b2u (fun v c hv=>VRel.mono hI (fun c hc=>hext.keep c (.inl hc)) v (fun _ _ h=>h) hv) hnow.size hnow.frm hd hvc
 ·split at hs
  case h_2=>cases hs
  rename_i v' eff ha
  rw [cond_eq_ite] at hs
  split at hs
  case isFalse=>cases hs
  rename_i hfit
  cases hs
  refine ⟨c60 H.length eff,eff.fresh,d9h hfit,?_,fun b hb=>c7n hb,d4q ok hlow hn0 hd ha⟩
  rw [a9i,cond_eq_ite]
end
end Go.Ax
/- AxDraw3: the whole of a region that draws its order. -/
namespace Go.Ax
section
variable {E:Env} {e:Entry} {N m0:Nat} {ops:Array Oper} {Q:Exit → Act → World → Prop} {f0:Nat → AV} {h0:FHeap}
structure RecOk (E:Env) (e:Entry) (N m0:Nat) (ops:Array Oper) (Q:Exit → Act → World → Prop) (f0:Nat → AV) (h0:FHeap) (p:List Rec) (i:Nat) (r:Rec):Prop where
 dst:∀ o,ops[i]? = some o → r.dst = o.dst
 keys:∀ b,(r.ov b).isSome = true → b ∈ r.log.keys
 good:∀ {C:Nat → Prop} {f:Nat → AV} {h:FHeap} {I:Nat → Prop} {ρ:PMap} {a:Act} {w:World},DNow E e N m0 C f h I ρ a w → (∀ o,ops[i]? = some o → ∀ s ∈ looks ops.toList o,f s = gL fov f0 a3y p s) →
  (∀ b ∈ r.log.needs,h b = gL hov h0 a3y p b) → (r.fresh = true → ¬ C (cnt m0 p)) →
  ∀ {K:Act → World → Prop},(∀ I' ρ' a' w',DNow E e N m0 (fun b=>C b ∨ (r.fresh = true ∧ b = cnt m0 p)) (fun s=>(fov r s).getD (f s)) (fun b=>(hov r b).getD (h b)) I' ρ' a' w' → K a' w') → wpOp E.P ops Q i K a w
def RecsOk (E:Env) (e:Entry) (N m0:Nat) (ops:Array Oper) (Q:Exit → Act → World → Prop) (f0:Nat → AV) (h0:FHeap) (recs:List Rec):Prop:=
 ∀ i r,nth recs i = some r → RecOk E e N m0 ops Q f0 h0 (pre recs i) i r
theorem RecsOk.cons {recs:List Rec} {r:Rec} (h:RecsOk E e N m0 ops Q f0 h0 recs) (hr:RecOk E e N m0 ops Q f0 h0 recs recs.length r):RecsOk E e N m0 ops Q f0 h0 (r :: recs):=by
 intro i r' hi
 unfold nth at hi
 simp only [pre]
 split at hi
 ·rename_i he;cases hi;rw [if_pos he,he];exact hr
 ·rename_i he;rw [if_neg he];exact h i r' hi
theorem c3m:∀ {l:List Rec},m0 ≤ cnt m0 l
 | []=>Nat.le_refl _
 | r :: rest=>by have:=c3m (l:=rest);simp only [cnt,cond_eq_ite];split<;>omega
theorem c24 {I:Nat → Prop} {w:World} {ρ:PMap} {a:Act} {v:AV} {j d:Nat} (hg:a2x ops.toList j = some d) (hv:VRel I w ρ v (a.tmps.getD d undef)) :
 (∀ b,v = .bool b → yielded ops a.tmps j = some b) ∧ (v = .tuple [] → yielded ops a.tmps j = none):=by
 have hd:(ops[j]?).bind (·.dst) = some d:=by simpa [a2x] using hg
 have hget:∀ c,a.tmps.getD d undef = c → c ≠ undef → a.tmps[d]? = some c:=by
  intro c hc hne
  rw [Array.getD_eq_getD_getElem?] at hc
  cases hx:a.tmps[d]? with
  | none=>rw [hx] at hc;exact absurd hc.symm hne
  | some x=>rw [hx] at hc;simpa using hc
 refine ⟨fun b hb=>?_,fun hb=>?_⟩
 ·rw [hb] at hv
  simp only [VRel] at hv
  have:=hget _ hv (by simp [undef])
  simp [yielded,hd,this]
 ·rw [hb] at hv
  simp only [VRel] at hv
  obtain ⟨cs,hc,hcs⟩:=hv
  unfold yielded
  rw [hd]
  simp only [Option.bind_some]
  rw [Array.getD_eq_getD_getElem?] at hc
  cases hx:a.tmps[d]? with
  | none=>rfl
  | some x=>
   rw [hx] at hc
   simp only [Option.getD_some] at hc
   rw [hc]
theorem c84 {o:Oper} {s:Nat} (h:s ∈ b2j o.op.operands.toList):s ∈ looks ops.toList o:=List.mem_append_left _ h
theorem c1e {o:Oper} {j d:Nat} {want:Bool} (hg:o.guard = some (j,want)) (hs:a2x ops.toList j = some d):d ∈ looks ops.toList o:=by
 simp [looks,hg,hs]
theorem a99 (ok:EnvOk E) {call:FuncId → List AV → a05 → Option (AV × a05)} (hcall:a3l E call) (hlow:e.m ≤ m0) {R:Type} {k:Frm → a05 → Option R} {r:R} :
 ∀ (rest:List Oper) (recs:List Rec) (F:Frm) (H:a05),rest = ops.toList.drop recs.length → recs.length + rest.length = ops.size → a4d F = gL fov f0 a3y recs → a02 H = gL hov h0 a3y recs → H.length = cnt m0 recs →
  RecsOk E e N m0 ops Q f0 h0 recs → a2j E true N call ops.toList rest (recs.map (·.log)) F H k = some r →
  ∃ recs' F' H',recs'.length = ops.size ∧ a4d F' = gL fov f0 a3y recs' ∧ a02 H' = gL hov h0 a3y recs' ∧ H'.length = cnt m0 recs' ∧ RecsOk E e N m0 ops Q f0 h0 recs' ∧
   logOk ops.toList (recs'.map (·.log)).length (recs'.map (·.log)) = true ∧ k F' H' = some r
 | [],recs,F,H,_,hlen,hF,hH,hn,hrecs,hrun=>by
  simp only [a2j,Bool.not_true,Bool.false_or] at hrun
  rw [cond_eq_ite] at hrun
  split at hrun
  case isFalse=>cases hrun
  rename_i hlog
  exact ⟨recs,F,H,by simpa using hlen,hF,hH,hn,hrecs,hlog,hrun⟩
 | o :: rest,recs,F,H,hrest,hlen,hF,hH,hn,hrecs,hrun=>by
  have ho:ops[recs.length]? = some o:=by
   have:(ops.toList.drop recs.length)[0]? = some o:=by rw [← hrest];rfl
   rw [List.getElem?_drop] at this
   simpa using this
  have hrest':rest = ops.toList.drop (recs.length + 1):=by
   have:(ops.toList.drop recs.length).drop 1 = rest:=by rw [← hrest];rfl
   rw [List.drop_drop] at this
   exact this.symm
  unfold a2j at hrun
  rw [cond_eq_ite] at hrun
  split at hrun
  case isFalse=>cases hrun
  rename_i hd
  simp only [List.length_cons] at hlen
  -- a step that is executed,and one that is not
  have exec:∀ F0,a4d F0 = a4d F → (match a11 E true call F0 H o.op with
   | some (v,H',l)=>a2j E true N call ops.toList rest (l :: recs.map (·.log)) (a3q F0 o.dst v) H' k
   | none=>none) = some r →
   (∀ {I:Nat → Prop} {w:World} {ρ:PMap} {a:Act} {f:Nat → AV},(∀ s ∈ looks ops.toList o,f s = gL fov f0 a3y recs s) → (∀ s,VRel I w ρ (f s) (a.tmps.getD s undef)) → Region.wanted o (yielded ops a.tmps) = true) →
   ∃ recs' F' H',recs'.length = ops.size ∧ a4d F' = gL fov f0 a3y recs' ∧ a02 H' = gL hov h0 a3y recs' ∧ H'.length = cnt m0 recs' ∧ RecsOk E e N m0 ops Q f0 h0 recs' ∧
    logOk ops.toList (recs'.map (·.log)).length (recs'.map (·.log)) = true ∧ k F' H' = some r:=by
   intro F0 hF0 hr hw
   split at hr
   case h_2=>cases hr
   rename_i v H' l hs
   obtain ⟨ov,fresh,h1,h2,h3,h4⟩:=c6h (e:=e) (N:=N) (m0:=m0) ok hcall hlow (by rw [hn];exact c3m) hs hd
   refine a99 ok hcall hlow rest (⟨o.dst,v,ov,fresh,l⟩ :: recs) (a3q F0 o.dst v) H' (by simpa using hrest') (by simp only [List.length_cons];omega) ?_ ?_ ?_ (hrecs.cons ?_) hr
   ·simp only [gL,a3y,if_true]
    rw [← hF,← hF0]
    funext s
    cases hdst:o.dst with
    | none=>simp [a3q,fov]
    | some d=>rw [a8f];simp only [fov,Option.some.injEq];split<;>rfl
   ·simp only [gL,a3y,if_true]
    rw [← hH];exact h1
   ·simp only [cnt];rw [← hn];exact h2
   ·refine ⟨fun o' ho'=>by rw [ho] at ho';cases ho';rfl,h3,?_⟩
    intro C f h I ρ a w hnow hf hh hC K hK
    have hf:=hf o ho
    unfold wpOp
    simp only [ho]
    rw [if_pos (hw hf hnow.frm)]
    refine .inl (h4 hnow (fun s hs=>by rw [hf s (c84 hs),hF0,hF]) (fun b hb=>by rw [hh b hb,hH]) (by rw [hn];exact hC) ?_)
    rw [hn]
    exact hK
  have skip:∀ F0,a4d F0 = a4d F → a2j E true N call ops.toList rest (⟨[],[]⟩ :: recs.map (·.log)) (a3q F0 o.dst (.tuple [])) H k = some r →
   (∀ {I:Nat → Prop} {w:World} {ρ:PMap} {a:Act} {f:Nat → AV},(∀ s ∈ looks ops.toList o,f s = gL fov f0 a3y recs s) → (∀ s,VRel I w ρ (f s) (a.tmps.getD s undef)) → Region.wanted o (yielded ops a.tmps) = false) →
   ∃ recs' F' H',recs'.length = ops.size ∧ a4d F' = gL fov f0 a3y recs' ∧ a02 H' = gL hov h0 a3y recs' ∧ H'.length = cnt m0 recs' ∧ RecsOk E e N m0 ops Q f0 h0 recs' ∧
    logOk ops.toList (recs'.map (·.log)).length (recs'.map (·.log)) = true ∧ k F' H' = some r:=by
   intro F0 hF0 hr hw
   refine a99 ok hcall hlow rest (⟨o.dst,.tuple [],fun _=>none,false,⟨[],[]⟩⟩ :: recs) (a3q F0 o.dst (.tuple [])) H (by simpa using hrest') (by simp only [List.length_cons];omega) ?_ ?_ ?_ (hrecs.cons ?_) hr
   ·simp only [gL,a3y,if_true]
    rw [← hF,← hF0]
    funext s
    cases hdst:o.dst with
    | none=>simp [a3q,fov]
    | some d=>rw [a8f];simp only [fov,Option.some.injEq];split<;>rfl
   ·simp only [gL,a3y,if_true]
    rw [← hH];rfl
   ·simp only [cnt];exact hn
   ·refine ⟨fun o' ho'=>by rw [ho] at ho';cases ho';rfl,by simp,?_⟩
    intro C f h I ρ a w hnow hf hh hC K hK
    have hf:=hf o ho
    unfold wpOp
    simp only [ho]
    rw [if_neg (by rw [hw hf hnow.frm];simp)]
    refine hK I ρ _ _ ⟨hnow.imm,hnow.map,hnow.ext,hnow.rel,fun b hb hc=>hnow.nrel b hb (fun h=>hc (.inl h)),hnow.fin,by rw [a9x];exact hnow.size,?_,by rw [a70];exact hnow.defers⟩
    exact b2u (fun _ _ h=>h) hnow.size hnow.frm hd (by simp only [VRel,undef];exact ⟨#[],rfl,by simp [VRels]⟩)
  split at hrun
  ·rename_i hg
   exact exec F rfl hrun (fun _ _=>by simp [Region.wanted,hg])
  ·rename_i j want hg
   split at hrun
   case h_1=>cases hrun
   rename_i d hgs
   have hdl:=c1e (o:=o) hg hgs
   split at hrun
   ·rename_i b hb
    have hw:∀ {I:Nat → Prop} {w:World} {ρ:PMap} {a:Act} {f:Nat → AV},(∀ s ∈ looks ops.toList o,f s = gL fov f0 a3y recs s) → (∀ s,VRel I w ρ (f s) (a.tmps.getD s undef)) → Region.wanted o (yielded ops a.tmps) = (b == want):=by
     intro I w ρ a f hf hv
     have hfd:f d = .bool b:=by rw [hf d hdl,← hF,hb]
     have:=(c24 hgs (hv d)).1 b hfd
     simp [Region.wanted,hg,this]
    have hset:a4d (a3q F (some d) (.bool b)) = a4d F:=by
     funext s
     rw [a8f]
     split
     ·rename_i hs;rw [← hs,hb]
     ·rfl
    cases b
    ·simp only [cond_false] at hrun
     cases want
     ·simp only [cond_false] at hrun
      exact exec _ hset hrun (fun hf hv=>by rw [hw hf hv];rfl)
     ·simp only [cond_true] at hrun
      exact skip _ hset hrun (fun hf hv=>by rw [hw hf hv];rfl)
    ·simp only [cond_true] at hrun
     cases want
     ·simp only [cond_false] at hrun
      exact skip _ hset hrun (fun hf hv=>by rw [hw hf hv];rfl)
     ·simp only [cond_true] at hrun
      exact exec _ hset hrun (fun hf hv=>by rw [hw hf hv];rfl)
   ·rename_i hb
    refine skip F rfl hrun (fun {I w ρ a f} hf hv=>?_)
    have hfd:f d = .tuple []:=by rw [hf d hdl,← hF,hb]
    have:=(c24 hgs (hv d)).2 hfd
    simp [Region.wanted,hg,this]
   ·cases hrun
theorem a4r {recs:List Rec}:∀ {i:Nat} {r:Rec},nth recs i = some r → nth (recs.map (·.log)) i = some r.log:=by
 induction recs with
 | nil=>intro i r h;simp [nth] at h
 | cons a rest ih=>
  intro i r h
  unfold nth at h
  simp only [List.map_cons,nth,List.length_map]
  split at h
  ·rename_i hi;cases h;rw [if_pos hi]
  ·rename_i hi;rw [if_neg hi];exact ih h
theorem b33 {a b:List Nat} {x:Nat} (h1:x ∈ a) (h2:x ∈ b):b34 a b = true:=by
 simp only [b34,List.any_eq_true,a2t]
 exact ⟨x,h1,h2⟩
theorem DNow.weaken {C C':Nat → Prop} {f:Nat → AV} {h:FHeap} {I:Nat → Prop} {ρ:PMap} {a:Act} {w:World} (d:DNow E e N m0 C f h I ρ a w) (hC:∀ b,C b → C' b):DNow E e N m0 C' f h I ρ a w:=
 { d with nrel:=fun b hb hc=>d.nrel b hb (fun h=>hc (hC b h)) }
theorem b5f {S:Nat → Bool} {b:Nat}:∀ {l:List Rec},made m0 S l b → made m0 a3y l b
 | [],h=>h
 | _ :: _,h=>h.imp (fun ⟨_,h2⟩=>⟨rfl,h2⟩) b5f
theorem d3z (hst:c3h ops.toList = true) {recs:List Rec} (hlen:recs.length = ops.size) (hrecs:RecsOk E e N m0 ops Q f0 h0 recs) (hlog:logOk ops.toList (recs.map (·.log)).length (recs.map (·.log)) = true)
 (hQ:∀ I ρ a w,DNow E e N m0 (made m0 a3y recs) (gL fov f0 a3y recs) (gL hov h0 a3y recs) I ρ a w → Q .normal a w) :
 ∀ (fuel:Nat) (listed:Array Bool) (I:Nat → Prop) (ρ:PMap) (a:Act) (w:World),listed.size = ops.size → ((List.range ops.size).filter fun i=>!listed.getD i false).length ≤ fuel →
  (∀ j,listed.getD j false = true → a7w ops.toList (fun i=>listed.getD i false) j) →
  DNow E e N m0 (made m0 (fun i=>listed.getD i false) recs) (gL fov f0 (fun i=>listed.getD i false) recs) (gL hov h0 (fun i=>listed.getD i false) recs) I ρ a w →
  wpAny E.P .any ops Q fuel listed a w:=by
 have done:∀ (listed:Array Bool) (I:Nat → Prop) (ρ:PMap) (a:Act) (w:World),(∀ i,i < ops.size → listed.getD i false = true) →
  DNow E e N m0 (made m0 (fun i=>listed.getD i false) recs) (gL fov f0 (fun i=>listed.getD i false) recs) (gL hov h0 (fun i=>listed.getD i false) recs) I ρ a w → Q .normal a w:=by
  intro listed I ρ a w hall hnow
  have hsame:∀ j,j < recs.length → (fun i=>listed.getD i false) j = a3y j:=fun j hj=>by rw [hlen] at hj;exact hall j hj
  rw [b7c hsame,b7c hsame] at hnow
  exact hQ I ρ a w (hnow.weaken fun b=>b5f)
 intro fuel
 induction fuel with
 | zero=>
  intro listed I ρ a w hsz hcount hcl hnow
  have hall:∀ i,i < ops.size → listed.getD i false = true:=by
   intro i hi
   cases hx:listed.getD i false with
   | true=>rfl
   | false=>
    have:i ∈ (List.range ops.size).filter fun i=>!listed.getD i false:=by
     rw [List.mem_filter,List.mem_range];exact ⟨hi,by rw [hx];rfl⟩
    have:=List.length_pos_of_mem this
    omega
  have hready:Region.ready .any ops listed = []:=by
   cases hr:Region.ready .any ops listed with
   | nil=>rfl
   | cons i rest=>
    have:i ∈ Region.ready .any ops listed:=by rw [hr];simp
    obtain ⟨h1,o,h2,_⟩:=mem_ready.1 this
    have hi:=(Array.getElem?_eq_some_iff.1 h2).1
    have:=hall i hi
    simp only [Array.getD_eq_getD_getElem?,Array.getElem?_eq_getElem (show i < listed.size by omega),Option.getD_some] at h1 this
    rw [this] at h1;cases h1
  exact ⟨hready,done listed I ρ a w hall hnow⟩
 | succ fuel ih=>
  intro listed I ρ a w hsz hcount hcl hnow
  refine ⟨fun hready=>done listed I ρ a w ?_ hnow,fun i hi=>?_⟩
  ·intro i
   induction i using Nat.strongRecOn with
   | _ i ihi=>
    intro hi
    cases hx:listed.getD i false with
    | true=>rfl
    | false=>
     exfalso
     have hmem:i ∈ Region.ready .any ops listed:=by
      refine mem_ready.2 ⟨?_,ops[i],by simp [hi],fun e he hb=>?_⟩
      ·simpa only [Array.getD_eq_getD_getElem?,Array.getElem?_eq_getElem (show i < listed.size by omega),Option.getD_some] using hx
      ·have:=(b0j hst (j:=i) (y:=ops[i]) (by simp [hi])).1 e (by simpa using he) hb
       exact ihi e.on this (by omega)
     rw [hready] at hmem;cases hmem
  ·obtain ⟨h1,o,ho,hedges⟩:=mem_ready.1 hi
   have hi':=(Array.getElem?_eq_some_iff.1 ho).1
   have hol:ops.toList[i]? = some o:=by simpa using ho
   generalize hS:(fun i=>listed.getD i false) = S at hcl hnow
   have hSi:S i = false:=by
    rw [← hS]
    simp only [Array.getD_eq_getD_getElem?,Array.getElem?_eq_getElem (show i < listed.size by omega),Option.getD_some] at h1 ⊢
    exact h1
   have hcl':∀ j,S j = true → a7w ops.toList S j:=by intro j hj;rw [← hS] at hj;exact hcl j hj
   have hcli:a7w ops.toList S i:=by
    intro o' ho' e he hb
    rw [hol] at ho';cases ho'
    rw [← hS];exact hedges e (by simpa using he) hb
   obtain ⟨r,hr⟩:=c2n (l:=recs) (i:=i) (by omega)
   have hro:=hrecs i r hr
   have opAt:∀ j r',nth recs j = some r' → ∃ o',ops.toList[j]? = some o' ∧ r'.dst = o'.dst:=by
    intro j r' hj
    have hjl:=b30 hj
    have:ops[j]? = some ops[j]:=by simp
    exact ⟨ops[j],by simp,(hrecs j r' hj).dst _ this⟩
   have before:∀ j,a46 ops.toList j i = true → S j = true:=fun j h=>b5e hcl' hcli h
   have after:∀ j,a46 ops.toList i j = true → S j = false:=by
    intro j h
    cases hx:S j with
    | false=>rfl
    | true=>rw [b5e hcl' (hcl' j hx) h] at hSi;cases hSi
   refine hro.good hnow ?_ ?_ ?_ ?_
   ·intro o' ho' s hs
    rw [ho] at ho';cases ho'
    refine d93 hr fun j r' hj hd=>?_
    obtain ⟨oj,hoj,hdj⟩:=opAt j r' hj
    have hds:oj.dst = some s:=by
     rw [← hdj];unfold fov at hd;split at hd
     ·assumption
     ·simp at hd
    refine ⟨fun hji=>before j ?_,fun hij=>?_⟩
    ·refine (b0j hst hol).2 j oj hoj hji ?_
     simp only [a5y,hds,Bool.or_eq_true,List.contains_iff_mem]
     exact .inl (.inl hs)
    ·rcases Nat.lt_or_eq_of_le hij with hlt|rfl
     ·refine after j ((b0j hst hoj).2 i o hol hlt ?_)
      simp only [a5y,hds,Bool.or_eq_true,List.contains_iff_mem]
      exact .inl (.inr hs)
     ·exact hSi
   ·intro b hb
    refine d93 hr fun j r' hj hd=>?_
    have hkey:=(hrecs j r' hj).keys b hd
    refine ⟨fun hji=>before j ?_,fun hij=>?_⟩
    ·refine b2a hlog j i _ _ hji (a4r hj) (a4r hr) ?_
     simp only [LogE.clash,b33 hkey hb,Bool.true_or]
    ·rcases Nat.lt_or_eq_of_le hij with hlt|rfl
     ·refine after j (b2a hlog i j _ _ hlt (a4r hr) (a4r hj) ?_)
      simp only [LogE.clash,b33 hb hkey,Bool.or_true]
     ·exact hSi
   ·intro hf hm
    rw [c81 hr hf hm] at hSi;cases hSi
   ·intro I' ρ' a' w' hnow'
    have hS':(fun j=>(listed.setIfInBounds i true).getD j false) = b8p S i:=by
     funext j
     rw [← hS]
     simp only [b8p,Array.getD_eq_getD_getElem?,Array.getElem?_setIfInBounds]
     by_cases hij:i = j
     ·subst hij;simp [show i < listed.size by omega]
     ·rw [if_neg hij,beq_eq_false_iff_ne.2 (Ne.symm hij),Bool.false_or]
    refine ih _ I' ρ' a' w' (by simpa using hsz) ?_ ?_ ?_
    ·have hfil:((List.range ops.size).filter fun j=>!(listed.setIfInBounds i true).getD j false) = ((List.range ops.size).filter fun j=>!listed.getD j false).filter fun j=>!(j == i):=by
      rw [List.filter_filter]
      refine List.filter_congr fun j _=>?_
      have h1:=congrFun hS' j
      have h2:=congrFun hS j
      rw [h1,h2]
      simp [b8p]
     rw [hfil]
     have:(((List.range ops.size).filter fun j=>!listed.getD j false).filter fun j=>!(j == i)).length < ((List.range ops.size).filter fun j=>!listed.getD j false).length:=by
      refine List.length_filter_lt_length_iff_exists.2 ⟨i,?_,by simp⟩
      rw [List.mem_filter,List.mem_range]
      refine ⟨hi',?_⟩
      have h2:=congrFun hS i
      rw [h2,hSi];rfl
     omega
    ·rw [hS']
     have hmono:∀ j,a7w ops.toList S j → a7w ops.toList (b8p S i) j:=fun j h o ho e he hb=>by simp [b8p,h o ho e he hb]
     intro j hj
     have hj:b8p S i j = true:=by rw [← hS'];exact hj
     simp only [b8p,Bool.or_eq_true,beq_iff_eq] at hj
     rcases hj with rfl|hj
     ·exact hmono _ hcli
     ·exact hmono _ (hcl' j hj)
    ·rw [hS']
     rw [c96 hr hSi ?_,c96 hr hSi ?_]
     ·exact hnow'.weaken fun b hb=>b8v hr hb
     ·intro k r' hk hik hSk s hs
      cases hx:hov r' s with
      | none=>rfl
      | some ob=>
       have h1:=hro.keys s hs
       have h2:=(hrecs k r' hk).keys s (by unfold hov at hx;rw [hx];rfl)
       have:=after k (b2a hlog i k _ _ hik (a4r hr) (a4r hk) (by simp only [LogE.clash,b33 h1 h2,Bool.or_true,Bool.true_or]))
       rw [hSk] at this;cases this
     ·intro k r' hk hik hSk s hs
      cases hx:fov r' s with
      | none=>rfl
      | some v=>
       obtain ⟨ok,hok,hdk⟩:=opAt k r' hk
       have h1:o.dst = some s:=by
        rw [← hro.dst o ho];unfold fov at hs;split at hs
        ·assumption
        ·simp at hs
       have h2:ok.dst = some s:=by
        rw [← hdk];unfold fov at hx;split at hx
        ·assumption
        ·cases hx
       have:=after k ((b0j hst hok).2 i o hol hik (by simp [a5y,h1,h2]))
       rw [hSk] at this;cases this
theorem c0t (ok:EnvOk E) {call:FuncId → List AV → a05 → Option (AV × a05)} (hcall:a3l E call) {R:Type} {k:Frm → a05 → Option R} {r:R} {F:Frm} {H:a05} {I:Nat → Prop} {ρ:PMap} {a:Act} {w:World}
 (hst:c3h ops.toList = true) (hQ:∀ F H I ρ a w,Now E e N F H I ρ a w → k F H = some r → Q .normal a w) (hnow:Now E e N F H I ρ a w) (hrun:a2j E true N call ops.toList ops.toList [] F H k = some r) (id:Nat) :
 (Code.region id ops true).wp E.P Q a w:=by
 refine wp_region_any ok.mixed ?_
 obtain ⟨recs,F',H',h1,h2,h3,h4,h5,h6,h7⟩:=a99 (e:=e) (N:=N) (m0:=H.length) (Q:=Q) (f0:=a4d F) (h0:=a02 H) ok hcall hnow.low ops.toList [] F H (by simp) (by simp) rfl rfl rfl (fun i r h=>by simp [nth] at h) hrun
 have hfalse:∀ i,(Array.replicate ops.size false).getD i false = false:=by
  intro i
  simp only [Array.getD_eq_getD_getElem?,Array.getElem?_replicate]
  split<;>rfl
 have hnone:∀ {V:Type} (o:Rec → Nat → Option V) (g0:Nat → V) (l:List Rec),gL o g0 (fun i=>(Array.replicate ops.size false).getD i false) l = g0:=by
  intro V o g0 l
  induction l with
  | nil=>rfl
  | cons a rest ih=>unfold gL;rw [if_neg (by rw [hfalse];simp)];exact ih
 refine d3z hst h1 h5 h6 ?_ ops.size _ I ρ a _ (by simp) ?_ ?_ ?_
 ·intro I' ρ' a' w' hd
  refine hQ F' H' I' ρ' a' w' ⟨hd.imm,hd.map,hd.ext,?_,?_,⟨hd.size,fun s=>by rw [h2];exact hd.frm s⟩,?_,hd.defers⟩ h7
  ·rw [h3];exact hd.rel
  ·intro b hb
   have hge:H.length ≤ cnt H.length recs:=c3m
   refine hd.nrel b (by omega) (fun hm=>?_)
   have:=c1c hm
   omega
  ·have hge:H.length ≤ cnt H.length recs:=c3m
   have:=hnow.low
   omega
 ·refine Nat.le_trans (List.length_filter_le _ _) (by simp)
 ·intro j hj
  have:=hfalse j
  rw [this] at hj;cases hj
 ·have hdrew:=hnow.drew
  rw [hnone,hnone]
  exact ⟨hdrew.imm,hdrew.map,hdrew.ext,hdrew.rel,fun b hb _=>hdrew.nrel b hb,⟨_,hdrew.nrel⟩,hdrew.frm.1,hdrew.frm.2,hdrew.defers⟩
end
end Go.Ax
/- AxCode: statements. -/
namespace Go.Ax
def a28:Code → Bool
 | .region _ ops draw=>bif draw then c3h ops.toList else true
 | .seq a b=>a28 a && a28 b
 | .cond _ a b=>a28 a && a28 b
 | .block _ b=>a28 b
 | .loop b=>a28 b
 | .scope b=>a28 b
 | _=>true
def AExit.conv:AExit → Exit
 | .normal=>.normal
 | .exit id=>.exit id
 | .ret=>.ret
section
variable {E:Env}
theorem c9u (ok:EnvOk E) {call:FuncId → List AV → a05 → Option (AV × a05)} (hcall:a3l E call) {e:Entry} {N lf:Nat} {keep:Nat → List Nat} {R:Type}:∀ (c:Code),a28 c = true →
 ∀ {cur:Nat} {k:AExit → Frm → a05 → Option R} {r:R} {Q:Exit → Act → World → Prop},(∀ x F H I ρ a w,Now E e N F H I ρ a w → k x F H = some r → Q x.conv a w) →
 ∀ {F:Frm} {H:a05} {I:Nat → Prop} {ρ:PMap} {a:Act} {w:World},Now E e N F H I ρ a w → a6o E e.m N keep call lf cur c F H k = some r → c.wp E.P Q a w:=by
 intro c
 induction c with
 | skip=>intro _ cur k r Q hQ F H I ρ a w hnow hrun;exact wp_skip (hQ .normal F H I ρ a w hnow hrun)
 | label l=>intro _ cur k r Q hQ F H I ρ a w hnow hrun;exact wp_label (hQ .normal F H I ρ a w hnow hrun)
 | exit id=>intro _ cur k r Q hQ F H I ρ a w hnow hrun;exact wp_exit (hQ (.exit id) F H I ρ a w hnow hrun)
 | ret=>intro _ cur k r Q hQ F H I ρ a w hnow hrun;exact wp_ret (hQ .ret F H I ρ a w hnow hrun)
 | region id ops draw=>
  intro hst cur k r Q hQ F H I ρ a w hnow hrun
  have hQ':∀ F H I ρ a w,Now E e N F H I ρ a w → k .normal F H = some r → Q .normal a w:=fun F H I ρ a w h hk=>hQ .normal _ H I ρ a w h hk
  cases draw with
  | true=>exact c0t (ops:=ops) ok hcall hst hQ' hnow hrun id
  | false=>
   refine wp_region ?_
   have:=b55 ok hcall (ops:=ops) hQ' ops.toList 0 [] F H I ρ a w rfl hnow hrun
   rw [List.range_eq_range',← Array.length_toList];exact this
 | seq x y ihx ihy=>
  intro hst cur k r Q hQ F H I ρ a w hnow hrun
  simp only [a28,Bool.and_eq_true] at hst
  refine wp_seq (ihx hst.1 ?_ hnow hrun)
  intro x F H I ρ a w hn hk
  cases x with
  | normal=>exact ihy hst.2 hQ hn hk
  | exit id=>exact hQ (.exit id) F H I ρ a w hn hk
  | ret=>exact hQ .ret F H I ρ a w hn hk
 | cond c x y ihx ihy=>
  intro hst cur k r Q hQ F H I ρ a w hnow hrun
  simp only [a28,Bool.and_eq_true] at hst
  unfold a6o at hrun
  split at hrun
  case h_2=>cases hrun
  rename_i t ht
  have hc:=c2m hnow.rel hnow.frm c
  rw [ht] at hc
  simp only [VRel] at hc
  cases t
  ·exact wp_cond_false hc (ihy hst.2 hQ hnow hrun)
  ·exact wp_cond_true hc (ihx hst.1 hQ hnow hrun)
 | block id b ih=>
  intro hst cur k r Q hQ F H I ρ a w hnow hrun
  refine wp_block (ih hst ?_ hnow hrun)
  intro x F H I ρ a w hn hk
  cases x with
  | normal=>exact hQ .normal F H I ρ a w hn hk
  | exit id'=>
   simp only [AExit.conv,Exit.inBlock]
   dsimp only at hk
   rw [cond_eq_ite] at hk
   split at hk
   ·rename_i h;rw [if_pos (by simpa using h)];exact hQ .normal F H I ρ a w hn hk
   ·rename_i h;rw [if_neg (by simpa using h)];exact hQ (.exit id') F H I ρ a w hn hk
  | ret=>exact hQ .ret F H I ρ a w hn hk
 | loop b ih=>
  intro hst cur k r Q hQ F H I ρ a w hnow hrun
  refine c66 (n:=lf) (fun n a w=>∃ F H I ρ,Now E e N F H I ρ a w ∧ b1y e.m (keep cur) (fun F H k=>a6o E e.m N keep call lf cur b F H k) n F H (fun x F H=>bif d97 (keep cur) then k x (d13 e.m H F) (c9a e.m H) else k x F H) = some r) ?_ ?_ ⟨F,H,I,ρ,hnow,hrun⟩
  ·rintro n a w ⟨F,H,I,ρ,hnow,hrun⟩
   unfold b1y at hrun
   dsimp only at hrun
   rw [cond_eq_ite] at hrun
   split at hrun
   case isFalse=>cases hrun
   rename_i hc
   simp only [Bool.and_eq_true,List.all_eq_true,Nat.ble_eq] at hc
   obtain ⟨ρ',hn'⟩:=(hnow.keep (keep cur)).gc (b27 hc.1.1) hc.1.2
   refine ih hst ?_ hn' hrun
   intro x F H I ρ a w hn hk
   have hz:∀ x,(bif d97 (keep cur) then k x (d13 e.m H F) (c9a e.m H) else k x F H) = some r → Q x.conv a w:=by
    intro x hk
    rw [cond_eq_ite] at hk
    split at hk
    ·obtain ⟨I',ρ',h'⟩:=hn.frz;exact hQ x _ _ I' ρ' a w h' hk
    ·exact hQ x F H I ρ a w hn hk
   cases x with
   | normal=>exact ⟨F,H,I,ρ,hn,hk⟩
   | exit id=>exact hz _ hk
   | ret=>exact hz _ hk
  ·rintro a w ⟨F,H,I,ρ,_,hrun⟩
   simp [b1y] at hrun
 | scope b ih=>
  intro hst cur k r Q hQ F H I ρ a w hnow hrun
  refine wp_scope_straight (ih hst ?_ hnow hrun)
  intro x F H I ρ a w hn hk
  cases x with
  | normal=>exact hQ .normal F H I ρ a w hn hk
  | exit id=>exact hQ (.exit id) F H I ρ a w hn hk
  | ret=>exact hQ .ret F H I ρ a w hn hk
 | rangeFunc f ps as b=>intro _ cur k r Q hQ F H I ρ a w hnow hrun;simp [a6o] at hrun
 | goto l=>intro _ cur k r Q hQ F H I ρ a w hnow hrun;simp [a6o] at hrun
 | refuse s=>intro _ cur k r Q hQ F H I ρ a w hnow hrun;simp [a6o] at hrun
end
end Go.Ax
/- AxFun: functions. -/
namespace Go.Ax
section
variable {E:Env} {I K:Nat → Prop} {ρ:PMap} {h:FHeap} {w:World}
theorem d0p (ok:EnvOk E) (r:HRel E.G I K ρ h w) {t:TypeId} {p v:AV} {c:Value} (hl:a6a E h t p = some v) (hp:VRel I w ρ p c) :
 ∃ a d,c = .pointer (some a) ∧ (loadVar t a).run E.P w = .ok d w ∧ VRel I w ρ v d:=by
 cases p with
 | ptr b i o=>
  simp only [a6a] at hl
  cases hb:h b with
  | none=>simp [hb] at hl
  | some ob=>
   cases ob with
   | row k rows=>
    simp only [hb] at hl
    cases hr:rows[i]? with
    | none=>simp [hr] at hl
    | some rw'=>
     simp only [hr] at hl
     obtain ⟨m,hm,_,_,ho⟩:=r.live b _ hb
     obtain ⟨hk,hk0,_,hrows⟩:=ho
     obtain ⟨hlen,hat⟩:=VRows.get i hrows hr
     simp only [VRel] at hp
     obtain ⟨m',hm',rfl⟩:=hp
     obtain rfl:m = m':=Option.some.inj (hm.symm.trans hm')
     by_cases hsz:o ≤ rw'.length
     ·have hat':VAt I w ρ ((rw'.drop o).take (E.sz t)) m.blk (m.off + i * m.k + o):=by
       rw [hk];exact VAt.take _ (VAt.drop o hsz hat)
      obtain ⟨c,hc,hv⟩:=a7e ok hl hat'
      exact ⟨_,c,rfl,hc,hv⟩
     ·have:rw'.drop o = []:=List.drop_eq_nil_of_le (by omega)
      rw [this] at hl
      unfold a2m at hl
      simp only [List.take_nil,List.length_nil] at hl
      rw [cond_eq_ite] at hl
      split at hl
      ·rename_i h0
       cases hd:E.und t with
       | none=>simp [hd] at hl
       | some d=>
        simp only [hd] at hl
        have h0:E.sz t = 0:=(show 0 = E.sz t by simpa using h0).symm
        cases hag:a2i d with
        | true=>
         simp [hag] at hl;subst hl
         refine ⟨_,.agg #[],rfl,?_,by simp only [VRel];exact ⟨#[],rfl,by simp [VRels]⟩⟩
         simp [loadVar,b2o ok w hd,hag,a3a ok w hd,h0,loadCells,loadCellsFrom]
        | false=>simp [hag] at hl
      ·cases hl
   | map ks vs bs cl=>simp [hb] at hl
   | siter s pos=>simp [hb] at hl
 | iptr cs=>
  simp only [a6a] at hl
  simp only [VRel] at hp
  obtain ⟨b,off,rfl,hI,hat⟩:=hp
  obtain ⟨c,hc,hv⟩:=a7e ok hl (VAt.take _ hat)
  exact ⟨_,c,rfl,hc,VRel.noRef_any hv⟩
 | _=>simp [a6a] at hl
def e4v (tmps:Array Value):ResultVar → Sem Value:=fun
 | .tmp t=>pure (tmps.getD t undef)
 | .cell a t=>do loadVar t (← asAddr (tmps.getD a undef))
theorem a9l (ok:EnvOk E) {H:a05} {F:Frm} {tmps:Array Value} (r:HRel E.G I K ρ (a02 H) w) (hF:∀ s,VRel I w ρ (a4d F s) (tmps.getD s undef)) :
 ∀ (rs:List ResultVar) {vs:List AV},a1b E F H rs = some vs → ∃ cs:List Value,(rs.mapM (e4v tmps)).run E.P w = .ok cs w ∧ VRels I w ρ vs cs
 | [],vs,ha=>by
  simp only [a1b,Option.some.injEq] at ha;subst ha
  exact ⟨[],by simp,by simp [VRels]⟩
 | .tmp t :: rs,vs,ha=>by
  unfold a1b at ha
  split at ha
  case h_2=>cases ha
  rename_i vs' h1
  cases ha
  obtain ⟨cs,h2,h3⟩:=a9l ok r hF rs h1
  refine ⟨tmps.getD t undef :: cs,?_,by simp only [VRels];exact ⟨_,_,rfl,hF t,h3⟩⟩
  simp only [List.mapM_cons,e4v,Sem.run_bind,Sem.run_pure,Result.andThen_ok,h2]
 | .cell a t :: rs,vs,ha=>by
  unfold a1b at ha
  split at ha
  case h_2=>cases ha
  rename_i v vs' h0 h1
  cases ha
  obtain ⟨cs,h2,h3⟩:=a9l ok r hF rs h1
  obtain ⟨ad,d,h4,h5,h6⟩:=d0p ok r h0 (hF a)
  refine ⟨d :: cs,?_,by simp only [VRels];exact ⟨_,_,rfl,h6,h3⟩⟩
  simp only [List.mapM_cons,e4v,h4,asAddr,Sem.run_bind,Sem.run_pure,Result.andThen_ok,h2,h5]
theorem b58 (ok:EnvOk E) {fn:Func} {H:a05} {F:Frm} {tmps:Array Value} (r:HRel E.G I K ρ (a02 H) w) (hF:∀ s,VRel I w ρ (a4d F s) (tmps.getD s undef)) {vs:List AV} (ha:a1b E F H fn.results.toList = some vs) :
 ∃ c,(results fn tmps).run E.P w = .ok c w ∧ VRel I w ρ (a7j vs) c:=by
 obtain ⟨cs,h1,h2⟩:=a9l ok r hF _ ha
 have hrun:(results fn tmps).run E.P w = .ok (if h:cs.toArray.size = 1 then cs.toArray[0] else .tuple cs.toArray) w:=by
  have:results fn tmps = (do let vs ← fn.results.mapM (e4v tmps);pure (if h:vs.size = 1 then vs[0] else .tuple vs)):=rfl
  rw [this,Array.mapM_eq_mapM_toList]
  simp only [bind_map_left,Sem.run_bind,h1,Result.andThen_ok,Sem.run_pure]
 refine ⟨_,hrun,?_⟩
 match vs,cs,h2 with
 | [],cs,h2=>
  simp only [VRels] at h2;subst h2
  simp only [a7j,VRel];exact ⟨#[],by simp,by simp [VRels]⟩
 | [v],cs,h2=>
  simp only [VRels] at h2
  obtain ⟨c,cs',rfl,h3,rfl⟩:=h2
  simpa [a7j] using h3
 | v :: v' :: vs,cs,h2=>
  have h2':=h2
  simp only [VRels] at h2
  obtain ⟨c,_,rfl,_,c',cs',rfl,_,_⟩:=h2
  simp only [a7j,VRel]
  exact ⟨_,by simp,h2'⟩
theorem b5q:∀ (args:List AV) (i s:Nat),a4d (a3v i args) s = if i ≤ s then (args[s - i]?).getD .junk else .junk
 | [],i,s=>by simp [a3v,a4d]
 | v :: vs,i,s=>by
  simp only [a3v,a4d,c2p,b5q vs (i + 1) s]
  by_cases h:i = s
  ·subst h;simp
  ·rw [beq_eq_false_iff_ne.2 h]
   by_cases h1:i < s
   ·simp only [cond_false]
    rw [if_pos (by omega),if_pos (by omega),show s - i = (s - (i + 1)) + 1 by omega,List.getElem?_cons_succ]
   ·simp only [cond_false]
    rw [if_neg (by omega),if_neg (by omega)]
theorem b9g {args:List AV} {cargs:List Value} {n:Nat} (hn:args.length ≤ n) (h:VRels I w ρ args cargs):FRel I w ρ n (a3v 0 args) (cargs.toArray ++ Array.replicate (n - cargs.toArray.size) undef):=by
 have hlen:=VRels.length h
 refine ⟨by simp;omega,fun s=>?_⟩
 rw [b5q]
 simp only [Nat.zero_le,if_true,Nat.sub_zero]
 cases hs:args[s]? with
 | none=>simp [VRel]
 | some v=>
  have hsl:=(List.getElem?_eq_some_iff.1 hs).1
  obtain ⟨c,hc,hv⟩:=VRels.get s h hs
  simp only [Option.getD_some,Array.getD_eq_getD_getElem?]
  rw [Array.getElem?_append_left (by simp;omega)]
  simp only [List.getElem?_toArray,hc,Option.getD_some]
  exact hv
theorem d8e {m:Nat} {v v':AV} {c:Value} {H H':a05} (hf:e1b m v H = some (v',H')) (hm:m ≤ H.length) (r:HRel E.G I K ρ (a02 H) w) (hn:NRel ρ H.length) (hv:VRel I w ρ v c) :
 ∃ I' ρ',(∀ c,I c → I' c) ∧ (∀ b,b < m → ρ' b = ρ b) ∧ HRel E.G I' K ρ' (a02 H') w ∧ NRel ρ' H'.length ∧ m ≤ H'.length ∧ VRel I' w ρ' v' c:=by
 unfold e1b at hf
 split at hf
 case h_2=>cases hf;exact ⟨I,ρ,fun _ h=>h,fun _ _=>rfl,r,hn,hm,hv⟩
 case h_3=>cases hf;exact ⟨I,ρ,fun _ h=>h,fun _ _=>rfl,r,hn,hm,hv⟩
 case h_4=>cases hf
 rename_i b i o
 rw [cond_eq_ite] at hf
 split at hf
 case isFalse=>cases hf
 rename_i hmb
 rw [Nat.ble_eq] at hmb
 split at hf
 case h_2=>cases hf
 rename_i k rows hb
 split at hf
 case h_2=>cases hf
 rename_i rows' hfr
 cases hf
 simp only [VRel] at hv
 obtain ⟨p,hp,rfl⟩:=hv
 obtain ⟨p',hp',hnI,hnK,hk,hk0,⟨arr,e,ha1,ha2,ha3⟩,hrows⟩:=r.live b _ hb
 obtain rfl:p = p':=Option.some.inj (hp.symm.trans hp')
 have hwo:∀ x,a31 (a02 H) b x = if x = b then none else a02 H x:=by
  intro x;unfold a31
  by_cases h:x = b
  ·subst h;rw [if_pos rfl,show Nat.beq x x = true from Nat.beq_refl x];rfl
  ·rw [if_neg h,show Nat.beq x b = false from by
    cases hq:Nat.beq x b with
    | false=>rfl
    | true=>exact absurd (Nat.eq_of_beq_eq_true hq) h]
   rfl
 have r0:HRel E.G I K ρ (a31 (a02 H) b) w:=r.fewer (fun x ob hx=>by
  rw [hwo] at hx;split at hx
  ·cases hx
  ·exact hx)
 have hlen:((H.take m).map (Option.map (a0v (a1k m)))).length = m:=by simp;omega
 have hlow:∀ x o',a02 ((H.take m).map (Option.map (a0v (a1k m)))) x = some o' → ∃ o,x < m ∧ a31 (a02 H) b x = some o ∧ o' = a0v (a1k m) o:=by
  intro x o' hx
  simp only [a02,List.getElem?_map,List.getElem?_take] at hx
  split at hx
  case isFalse=>simp at hx
  rename_i hlt
  cases hxx:H[x]? with
  | none=>rw [hxx] at hx;simp at hx
  | some ob=>
   rw [hxx] at hx
   simp only [Option.map_some,Option.join_some] at hx
   obtain ⟨o,rfl,rfl⟩:=a0b hx
   exact ⟨o,hlt,by rw [hwo,if_neg (by omega)];simp [a02,hxx],rfl⟩
 have h1:=(b0d (h':=a02 ((H.take m).map (Option.map (a0v (a1k m))))) r0 (v:=.junk) (v':=.junk) (c:=.nilFunc) (n:=12) (m:=m) rfl (by simp [VRel]) hlow).1
 have hnF:¬ a97 I ρ (a31 (a02 H) b) m p.blk:=by
  rintro (hc|⟨b',o',q,hb',ho',hq,he⟩)
  ·exact hnI hc
  ·rw [hwo] at ho'
   split at ho'
   ·cases ho'
   ·rename_i hne
    exact hne (r.inj b' b q p (by simp [ho']) (by simp [hb]) hq hp he)
 have hI:∀ c,I c → a97 I ρ (a31 (a02 H) b) m c:=fun c hc=>.inl hc
 have hr2:=c98 hI (b1a r0 12) rows hfr hrows
 let ρ':PMap:=fun x=>if x = m then some p else ρ.below m true x
 have hρ:∀ x q,ρ.below m true x = some q → ρ' x = some q:=by
  intro x q hx
  have hlt:x < m:=by
   simp only [PMap.below] at hx;split at hx
   ·rename_i h;exact h.2
   ·cases hx
  show (if x = m then some p else ρ.below m true x) = some q
  rw [if_neg (by omega)];exact hx
 have hHm:∀ x,a02 ((H.take m).map (Option.map (a0v (a1k m))) ++ [some (.row k rows')]) x = if x = m then some (.row k rows') else a02 ((H.take m).map (Option.map (a0v (a1k m)))) x:=by
  intro x
  unfold a02
  by_cases hx:x < m
  ·rw [List.getElem?_append_left (by rw [hlen];exact hx),if_neg (by omega)]
  ·rw [List.getElem?_append_right (by rw [hlen];omega),hlen]
   by_cases hxm:x = m
   ·subst hxm;rw [if_pos rfl,Nat.sub_self];rfl
   ·rw [if_neg hxm]
    have e1:([some (AObj.row k rows')]:a05)[x - m]? = none:=List.getElem?_eq_none (by simp;omega)
    have e2:((H.take m).map (Option.map (a0v (a1k m))))[x]? = none:=List.getElem?_eq_none (by rw [hlen];omega)
    rw [e1,e2]
 refine ⟨a97 I ρ (a31 (a02 H) b) m,ρ',hI,?_,?_,?_,?_,?_⟩
 ·intro x hx
  show (if x = m then some p else ρ.below m true x) = ρ x
  rw [if_neg (by omega)]
  simp [PMap.below,hx]
 ·refine ⟨?_,?_,?_,h1.imm,h1.kept,h1.apart,?_⟩
  ·intro x ob hx
   rw [hHm] at hx
   split at hx
   ·rename_i hxm
    cases hx
    refine ⟨p,by show (if x = m then some p else _) = some p;rw [if_pos hxm],hnF,hnK,hk,hk0,⟨arr,e,ha1,ha2,by rw [b3o hfr];exact ha3⟩,?_⟩
    exact VRows.mono (fun _ h=>h) (fun _ _=>rfl) rows' hρ rfl hr2
   ·obtain ⟨q,hq,h3,h4,h5⟩:=h1.live x ob hx
    exact ⟨q,hρ x q hq,h3,h4,ORel.mono ob (fun _ h=>h) (fun _ _=>rfl) hρ rfl h5⟩
  ·intro x y q q' hx hy hqx hqy he
   rw [hHm] at hx hy
   have low:∀ z q,z ≠ m → (a02 ((H.take m).map (Option.map (a0v (a1k m)))) z).isSome → ρ' z = some q → ρ.below m true z = some q ∧ z < m ∧ ρ z = some q ∧ (a02 H z).isSome:=by
    intro z q hz hs hq
    have hq':ρ.below m true z = some q:=by
     have:(if z = m then some p else ρ.below m true z) = some q:=hq
     rw [if_neg hz] at this;exact this
    obtain ⟨ob,ho⟩:=Option.isSome_iff_exists.1 hs
    obtain ⟨o1,hlt,ho1,_⟩:=hlow z ob ho
    rw [hwo,if_neg (by omega)] at ho1
    refine ⟨hq',hlt,?_,by rw [ho1];rfl⟩
    simp only [PMap.below] at hq'
    rw [if_pos ⟨trivial,hlt⟩] at hq';exact hq'
   by_cases hxm:x = m
   ·by_cases hym:y = m
    ·rw [hxm,hym]
    ·exfalso
     rw [if_neg hym] at hy
     obtain ⟨_,h4,h5,h6⟩:=low y q' hym hy hqy
     have hqp:q = p:=by
      have:(if x = m then some p else ρ.below m true x) = some q:=hqx
      rw [if_pos hxm] at this;exact (Option.some.inj this).symm
     subst hqp
     have:=r.inj b y q q' (by simp [hb]) h6 hp h5 he
     omega
   ·rw [if_neg hxm] at hx
    obtain ⟨h3,h4,h5,h6⟩:=low x q hxm hx hqx
    by_cases hym:y = m
    ·exfalso
     have hqp:q' = p:=by
      have:(if y = m then some p else ρ.below m true y) = some q':=hqy
      rw [if_pos hym] at this;exact (Option.some.inj this).symm
     subst hqp
     have:=r.inj x b q q' h6 (by simp [hb]) h5 hp he
     omega
    ·rw [if_neg hym] at hy
     obtain ⟨g3,_⟩:=low y q' hym hy hqy
     exact h1.inj x y q q' hx hy h3 g3 he
  ·intro x q hx
   have:(if x = m then some p else ρ.below m true x) = some q:=hx
   split at this
   ·cases this;exact r.dom b p hp
   ·exact h1.dom x q this
  ·intro g cs hg
   exact h1.glob g cs hg
 ·intro x hx
  rw [List.length_append,hlen] at hx
  simp only [List.length_cons,List.length_nil] at hx
  show (if x = m then some p else ρ.below m true x) = none
  rw [if_neg (by omega)]
  simp only [PMap.below]
  rw [if_neg (by omega)]
 ·rw [List.length_append,hlen];omega
 ·simp only [VRel]
  exact ⟨p,by show (if m = m then some p else _) = some p;rw [if_pos rfl],rfl⟩
theorem b9d {thaw:Bool} {m:Nat} {v v':AV} {c:Value} {H H':a05} (hf:a1v thaw m v H = some (v',H')) (hm:m ≤ H.length) (r:HRel E.G I K ρ (a02 H) w) (hn:NRel ρ H.length) (hv:VRel I w ρ v c) :
 ∃ I' ρ',(∀ c,I c → I' c) ∧ (∀ b,b < m → ρ' b = ρ b) ∧ HRel E.G I' K ρ' (a02 H') w ∧ NRel ρ' H'.length ∧ m ≤ H'.length ∧ VRel I' w ρ' v' c:=by
 unfold a1v at hf
 rw [cond_eq_ite] at hf
 split at hf
 ·rw [cond_eq_ite] at hf
  split at hf
  ·exact d8e hf hm r hn hv
  ·cases hf
   exact ⟨I,ρ,fun _ h=>h,fun _ _=>rfl,r,hn,hm,hv⟩
 ·split at hf
  case h_2=>cases hf;exact ⟨I,ρ,fun _ h=>h,fun _ _=>rfl,r,hn,hm,hv⟩
  rename_i v1 hfr
  cases hf
  have hlen:((H.take m).map (Option.map (a0v (a1k m)))).length = m:=by simp;omega
  obtain ⟨h1,h2⟩:=b0d (h':=a02 ((H.take m).map (Option.map (a0v (a1k m))))) r hfr hv (by
   intro b o' hb
   simp only [a02,List.getElem?_map,List.getElem?_take] at hb
   split at hb
   case isFalse=>simp at hb
   rename_i hlt
   cases hx:H[b]? with
   | none=>rw [hx] at hb;simp at hb
   | some ob=>
    rw [hx] at hb
    simp only [Option.map_some,Option.join_some] at hb
    obtain ⟨o,rfl,rfl⟩:=a0b hb
    exact ⟨o,hlt,by simp [a02,hx],rfl⟩)
  refine ⟨_,_,fun _ h=>.inl h,fun b hb=>by simp [PMap.below,hb],h1,?_,by rw [hlen];exact Nat.le_refl _,h2⟩
  intro b hb
  rw [hlen] at hb
  simp only [PMap.below]
  rw [if_neg (by omega)]
end
end Go.Ax
/- AxLive: which slots are read from a loop's head on. Definitions only: nothing rests on them. -/
namespace Go.Ax
def e2h:List (Nat × List Nat) → Nat → List Nat
 | [],_=>[]
 | (i,l) :: r,j=>bif Nat.beq i j then l else e2h r j
end Go.Ax
/- AxInst: the tables of the evaluator, read off a program. -/
namespace Go.Ax
/-! ### tables that are searched -/
inductive Tab (α:Type) where
 | nil
 | node (l:Tab α) (k:Nat) (v:α) (r:Tab α)
def Tab.get {α:Type}:Tab α → Nat → Option α
 | .nil,_=>none
 | .node l k v r,i=>bif Nat.blt i k then l.get i else bif Nat.beq i k then some v else r.get i
def Tab.all {α:Type} (p:Nat → α → Bool):Tab α → Bool
 | .nil=>true
 | .node l k v r=>p k v && l.all p && r.all p
theorem Tab.all_get {α:Type} {p:Nat → α → Bool}:∀ {t:Tab α} {i:Nat} {x:α},t.all p = true → t.get i = some x → p i x = true
 | .nil,i,x,_,h=>by simp [Tab.get] at h
 | .node l k v r,i,x,ha,h=>by
  simp only [Tab.all,Bool.and_eq_true] at ha
  simp only [Tab.get,cond_eq_ite] at h
  split at h
  ·exact Tab.all_get ha.1.2 h
  ·split at h
   ·rename_i hk
    have:i = k:=by simpa using hk
    cases h;subst this;exact ha.1.1
   ·exact Tab.all_get ha.2 h
def Tab.toList {α:Type}:Tab α → List α
 | .nil=>[]
 | .node l _ v r=>l.toList ++ v :: r.toList
def Tab.from {α:Type}:Nat → Tab α → Option Nat
 | lo,.nil=>some lo
 | lo,.node l k _ r=>match l.from lo with
  | some n=>bif Nat.beq n k then r.from (k + 1) else none
  | none=>none
theorem Tab.from_len {α:Type}:∀ {t:Tab α} {lo n:Nat},t.from lo = some n → n = lo + t.toList.length
 | .nil,lo,n,h=>by simp only [Tab.from,Option.some.injEq] at h;simp [Tab.toList,h]
 | .node l k v r,lo,n,h=>by
  unfold Tab.from at h
  split at h
  case h_2=>cases h
  rename_i m hm
  rw [cond_eq_ite] at h
  split at h
  case isFalse=>cases h
  rename_i hk
  have hk:m = k:=by simpa using hk
  have h1:=Tab.from_len hm
  have h2:=Tab.from_len h
  simp [Tab.toList];omega
theorem Tab.get_from {α:Type}:∀ {t:Tab α} {lo n i:Nat} {x:α},t.from lo = some n → t.get i = some x → lo ≤ i ∧ t.toList[i - lo]? = some x
 | .nil,lo,n,i,x,_,h=>by simp [Tab.get] at h
 | .node l k v r,lo,n,i,x,hf,h=>by
  unfold Tab.from at hf
  split at hf
  case h_2=>cases hf
  rename_i m hm
  rw [cond_eq_ite] at hf
  split at hf
  case isFalse=>cases hf
  rename_i hk
  have hk:m = k:=by simpa using hk
  subst hk
  have hl:=Tab.from_len hm
  simp only [Tab.get,cond_eq_ite] at h
  split at h
  ·rename_i hlt
   obtain ⟨h1,h2⟩:=Tab.get_from hm h
   have hlt:i < m:=by simpa [Nat.blt_eq] using hlt
   refine ⟨h1,?_⟩
   simp only [Tab.toList]
   rw [List.getElem?_append_left (by omega)];exact h2
  ·split at h
   ·rename_i hk
    have:i = m:=by simpa using hk
    cases h;subst this
    refine ⟨by omega,?_⟩
    simp only [Tab.toList]
    rw [List.getElem?_append_right (by omega),show i - lo - l.toList.length = 0 by omega];rfl
   ·obtain ⟨h1,h2⟩:=Tab.get_from hf h
    refine ⟨by omega,?_⟩
    simp only [Tab.toList]
    rw [List.getElem?_append_right (by omega),show i - lo - l.toList.length = (i - (m + 1)) + 1 by omega,List.getElem?_cons_succ];exact h2
/-! ### the tables of a program -/
def d5e (T:Tab TypeInfo) (t:TypeId):Option TypeDesc:=
 match T.get t with
 | some i=>match i.desc with
  | .named _ u=>match T.get u with
   | some j=>some j.desc
   | none=>none
  | d=>some d
 | none=>none
def d6g (T:Tab TypeInfo) (t:TypeId):Option (List AV):=
 match T.get t with
 | some i=>match i.zero with
  | some z=>bif (d5e T t).isSome && Nat.beq z.cells.toList.length i.size then some (z.cells.toList.map a3o) else none
  | none=>none
 | none=>none
def e3o (P:Program) (T:Tab TypeInfo) (t:TypeId):Bool:=
 !(P.eqGuardType P.depth t) && !(P.stoodInHeld t) && (match T.get t with|some i=>i.comparable|none=>false) &&
  (match d5e T t with|some (.struct fs)=>fs.toList.all (fun f=>!(f.name == "_"))|_=>true)
def d5n (T:Tab TypeInfo) (t:Nat) (i:TypeInfo):Bool:=
 match d5e T t,i.zero with
 | some d,some (.agg _)=>a2i d
 | some d,some _=>!(a2i d)
 | _,_=>true
structure Laid where
 P:Program
 T:Tab TypeInfo
 F:Tab Func
 keep:Tab (List (Nat × List Nat))
 eqs:Tab Bool
 G:Nat → Option (List AV)
 thaw:Nat → Bool
 ro:Nat → Bool
 ext:Nat → Bool
def Laid.env (L:Laid):Env:={
 P:=L.P
 und:=d5e L.T
 sz:=fun t=>match L.T.get t with|some i=>i.size|none=>0
 bytes:=fun t=>match L.T.get t with|some i=>i.bytes|none=>0
 zero:=d6g L.T
 eqok:=fun t=>match L.eqs.get t with|some b=>b|none=>false
 G:=L.G
 fn:=fun f=>match L.F.get f with
  | some fn=>match fn.body with
   | some c=>some ⟨c,fn.ntmps,fn.results.toList⟩
   | none=>none
  | none=>none
 keep:=fun f=>match L.keep.get f with|some l=>e2h l|none=>fun _=>[]
 thaw:=L.thaw
 ro:=L.ro
 ext:=L.ext }
structure LaidOk (L:Laid):Prop where
 types:∀ i x,L.T.get i = some x → L.P.types[i]? = some x
 funcs:∀ i x,L.F.get i = some x → L.P.funcs[i]? = some x
 shape:L.T.all (d5n L.T) = true
 names:L.F.all (fun _ fn=>!(fn.name == "runtime.NumGoroutine")) = true
 eqs:L.eqs.all (fun t b=>!b || e3o L.P L.T t) = true
 ext:∀ f,L.ext f = true → ∃ fn,L.P.funcs[f]? = some fn ∧ fn.body = none ∧ (fn.name == "runtime.NumGoroutine") = false ∧ Extern.findNext fn = none ∧ Extern.find fn = some Extern.BytealgIndexByte.indexByte
 mixed:L.P.follows .mixedOrders = true
 draws:L.F.all (fun _ fn=>match fn.body with|some c=>a28 c|none=>true) = true
theorem b5p {α:Type} {t:Tab α} {l:List α} {n:Nat} (h1:t.from 0 = some n) (h2:t.toList = l):∀ i x,t.get i = some x → l.toArray[i]? = some x:=by
 intro i x h
 obtain ⟨_,h3⟩:=Tab.get_from h1 h
 rw [h2] at h3
 simpa using h3
section
variable {L:Laid} (ok:LaidOk L)
include ok
theorem b16 {t:Nat} {i:TypeInfo} (h:L.T.get t = some i):L.P.info? t = some i:=by
 have h1:=ok.types t i h
 have h2:=(Array.getElem?_eq_some_iff.1 h1).1
 show (if t < L.P.types.size then L.P.types[t]? else _) = _
 rw [if_pos h2];exact h1
theorem d5d {t:Nat} {d:TypeDesc} (h:d5e L.T t = some d):L.P.underlying t = some d ∧ ∃ i,L.T.get t = some i:=by
 unfold d5e at h
 split at h
 case h_2=>cases h
 rename_i i hi
 refine ⟨?_,i,hi⟩
 have h1:=b16 ok hi
 unfold Program.underlying
 rw [h1]
 split at h
 ·rename_i nm u hd
  split at h
  case h_2=>cases h
  rename_i j hj
  cases h
  have h2:=b16 ok hj
  cases i
  simp only at hd
  subst hd
  simp [h2]
 ·rename_i d' hne
  cases h
  cases i
  rename_i dd _ _ _ _ _ _ _ _ _
  cases dd<;>first|rfl|exact absurd rfl (hne _ _)
theorem LaidOk.envOk:EnvOk L.env where
 und t d h:=by
  obtain ⟨h1,i,hi⟩:=d5d ok h
  exact ⟨h1,i,b16 ok hi,by simp [Laid.env,hi],by simp [Laid.env,hi]⟩
 zero t cs h:=by
  have h:d6g L.T t = some cs:=h
  unfold d6g at h
  split at h
  case h_2=>cases h
  rename_i i hi
  split at h
  case h_2=>cases h
  rename_i z hz
  rw [cond_eq_ite] at h
  split at h
  case isFalse=>cases h
  rename_i hc
  simp only [Bool.and_eq_true,Nat.beq_eq] at hc
  cases h
  refine ⟨Option.isSome_iff_exists.1 hc.1,i,z,b16 ok hi,hz,by simp [Laid.env,hi,hc.2],fun I w=>a7s _⟩
 zshape t d i z hd hi hz:=by
  obtain ⟨_,j,hj⟩:=d5d ok hd
  have hji:=b16 ok hj
  have:i = j:=Option.some.inj (hi.symm.trans hji)
  subst this
  have hs:=Tab.all_get ok.shape hj
  have hd:d5e L.T t = some d:=hd
  simp only [d5n,hd,hz] at hs
  cases z with
  | agg a=>simp only at hs;exact ⟨fun _=>⟨a,rfl⟩,fun h=>by rw [hs] at h;cases h⟩
  | _=>simp only [Bool.not_eq_true'] at hs;exact ⟨fun h=>(by rw [hs] at h;cases h),fun _=>rfl⟩
 eqok t h:=by
  have h:(match L.eqs.get t with|some b=>b|none=>false) = true:=h
  split at h
  case h_2=>cases h
  rename_i b hb
  subst h
  have h:=Tab.all_get ok.eqs hb
  simp only [Bool.not_true,Bool.false_or,e3o,Bool.and_eq_true,Bool.not_eq_true'] at h
  obtain ⟨⟨⟨h1,h2⟩,h3⟩,h4⟩:=h
  refine ⟨h1,h2,?_,?_⟩
  ·split at h3
   ·rename_i i hi;exact ⟨i,b16 ok hi,h3⟩
   ·cases h3
  ·intro fs hfs f hf
   have hfs:d5e L.T t = some (.struct fs):=hfs
   rw [hfs] at h4
   simp only [List.all_eq_true,Bool.not_eq_true',beq_eq_false_iff_ne] at h4
   exact h4 f hf
 fn f i h:=by
  have h:(match L.F.get f with
   | some fn=>match fn.body with
    | some c=>some (⟨c,fn.ntmps,fn.results.toList⟩:FInfo)
    | none=>none
   | none=>none) = some i:=h
  split at h
  case h_2=>cases h
  rename_i fn hfn
  split at h
  case h_2=>cases h
  rename_i c hc
  cases h
  have hn:=Tab.all_get ok.names hfn
  exact ⟨fn,ok.funcs f fn hfn,hc,rfl,rfl,by simpa using hn⟩
 ext:=ok.ext
 mixed:=ok.mixed
theorem LaidOk.drawn:∀ f i,L.env.fn f = some i → a28 i.code = true:=by
 intro f i h
 have h:(match L.F.get f with
  | some fn=>match fn.body with
   | some c=>some (⟨c,fn.ntmps,fn.results.toList⟩:FInfo)
   | none=>none
  | none=>none) = some i:=h
 split at h
 case h_2=>cases h
 rename_i fn hfn
 split at h
 case h_2=>cases h
 rename_i c hc
 cases h
 have:=Tab.all_get ok.draws hfn
 simpa [hc] using this
end
end Go.Ax
/- AxMemo: calls whose answer is known already. -/
namespace Go.Ax
def e1i:List UInt8 → List UInt8 → Bool
 | [],[]=>true
 | a :: r,b :: s=>Nat.beq a.toNat b.toNat && e1i r s
 | _,_=>false
theorem c9p:∀ {a b:List UInt8},e1i a b = true → a = b
 | [],[],_=>rfl
 | [],_ :: _,h=>by simp [e1i] at h
 | _ :: _,[],h=>by simp [e1i] at h
 | a :: r,b :: s,h=>by
  simp only [e1i,Bool.and_eq_true,Nat.beq_eq] at h
  rw [c9p h.2,UInt8.toNat_inj.1 h.1]
def eqO:Option Nat → Option Nat → Bool
 | none,none=>true
 | some a,some b=>Nat.beq a b
 | _,_=>false
theorem e3q {a b:Option Nat} (h:eqO a b = true):a = b:=by
 cases a<;>cases b<;>simp_all [eqO]
def eqI:Int → Int → Bool
 | .ofNat a,.ofNat b=>Nat.beq a b
 | .negSucc a,.negSucc b=>Nat.beq a b
 | _,_=>false
theorem e3r {a b:Int} (h:eqI a b = true):a = b:=by
 cases a<;>cases b<;>simp_all [eqI]
mutual
def eqV:AV → AV → Bool
 | .bool a,.bool b=>match a,b with|true,true=>true|false,false=>true|_,_=>false
 | .int k n,.int k' n'=>decide (k = k') && eqI n n'
 | .str s,.str t=>e1i s t
 | .nilptr,.nilptr=>true
 | .nilslice,.nilslice=>true
 | .nilmap,.nilmap=>true
 | .nilfunc,.nilfunc=>true
 | .nilifc,.nilifc=>true
 | .iptr cs,.iptr ds=>eqL cs ds
 | .islice r c,.islice r' c'=>eqO c c' && eqR r r'
 | .agg cs,.agg ds=>eqL cs ds
 | .tuple cs,.tuple ds=>eqL cs ds
 | _,_=>false
def eqL:List AV → List AV → Bool
 | [],[]=>true
 | a :: r,b :: s=>eqV a b && eqL r s
 | _,_=>false
def eqR:List (List AV) → List (List AV) → Bool
 | [],[]=>true
 | a :: r,b :: s=>eqL a b && eqR r s
 | _,_=>false
end
mutual
theorem e3p:∀ (a b:AV),eqV a b = true → a = b
 | .bool a,b,h=>by cases b<;>simp only [eqV] at h<;>first|(cases h;done)|(split at h<;>first|rfl|cases h)
 | .int k n,b,h=>by
  cases b<;>simp only [eqV] at h<;>first|(cases h;done)|skip
  simp only [Bool.and_eq_true,decide_eq_true_eq] at h
  rw [h.1,e3r h.2]
 | .str s,b,h=>by cases b<;>simp only [eqV] at h<;>first|(cases h;done)|rw [c9p h]
 | .nilptr,b,h=>by cases b<;>simp only [eqV] at h<;>first|rfl|(cases h;done)
 | .nilslice,b,h=>by cases b<;>simp only [eqV] at h<;>first|rfl|(cases h;done)
 | .nilmap,b,h=>by cases b<;>simp only [eqV] at h<;>first|rfl|(cases h;done)
 | .nilfunc,b,h=>by cases b<;>simp only [eqV] at h<;>first|rfl|(cases h;done)
 | .nilifc,b,h=>by cases b<;>simp only [eqV] at h<;>first|rfl|(cases h;done)
 | .iptr cs,b,h=>by cases b<;>simp only [eqV] at h<;>first|(cases h;done)|rw [b5v _ _ h]
 | .islice r c,b,h=>by
  cases b<;>simp only [eqV] at h<;>first|(cases h;done)|skip
  simp only [Bool.and_eq_true] at h
  rw [e3q h.1,d63 _ _ h.2]
 | .agg cs,b,h=>by cases b<;>simp only [eqV] at h<;>first|(cases h;done)|rw [b5v _ _ h]
 | .tuple cs,b,h=>by cases b<;>simp only [eqV] at h<;>first|(cases h;done)|rw [b5v _ _ h]
 | .junk,b,h=>by simp [eqV] at h
 | .ptr ..,b,h=>by simp [eqV] at h
 | .slice ..,b,h=>by simp [eqV] at h
 | .map ..,b,h=>by simp [eqV] at h
 | .imap ..,b,h=>by simp [eqV] at h
 | .func ..,b,h=>by simp [eqV] at h
 | .iface ..,b,h=>by simp [eqV] at h
theorem b5v:∀ (a b:List AV),eqL a b = true → a = b
 | [],b,h=>by cases b<;>simp [eqL] at h<;>rfl
 | x :: r,b,h=>by
  cases b<;>simp only [eqL] at h
  ·cases h
  ·simp only [Bool.and_eq_true] at h
   rw [e3p _ _ h.1,b5v _ _ h.2]
theorem d63:∀ (a b:List (List AV)),eqR a b = true → a = b
 | [],b,h=>by cases b<;>simp [eqR] at h<;>rfl
 | x :: r,b,h=>by
  cases b<;>simp only [eqR] at h
  ·cases h
  ·simp only [Bool.and_eq_true] at h
   rw [b5v _ _ h.1,d63 _ _ h.2]
end
structure Fact where
 g:Nat
 args:List AV
 v:AV
def a0k (E:Env) (x:Fact):Prop:=
 ∀ (I K:Nat → Prop) (ρ:PMap) (w:World) (cargs:List Value),HRel E.G I K ρ (a02 []) w → NRel ρ 0 → VRels I w ρ x.args cargs →
  Calls E.P x.g cargs.toArray w fun en w'=>∃ c I' ρ',en = .returned c ∧ Ret E I K ρ 0 w I' ρ' [] w' ∧ VRel I' w' ρ' x.v c
def e2i:List Fact → FuncId → List AV → Option AV
 | [],_,_=>none
 | x :: r,g,args=>bif Nat.beq x.g g && eqL x.args args then some x.v else e2i r g args
def e7l (M:List Fact) (call:FuncId → List AV → a05 → Option (AV × a05)) (g:FuncId) (args:List AV) (H:a05):Option (AV × a05):=
 match H with
 | []=>match e2i M g args with
  | some v=>some (v,[])
  | none=>call g args []
 | b :: r=>call g args (b :: r)
theorem c6r {E:Env} {g:FuncId} {args:List AV} {v:AV}:∀ {M:List Fact},(∀ x ∈ M,a0k E x) → e2i M g args = some v → a0k E ⟨g,args,v⟩
 | [],_,h=>by simp [e2i] at h
 | x :: r,hM,h=>by
  simp only [e2i,cond_eq_ite] at h
  split at h
  ·rename_i hc
   simp only [Bool.and_eq_true,Nat.beq_eq] at hc
   cases h
   have:=hM x (by simp)
   obtain ⟨g',a',v'⟩:=x
   simp only at hc this
   have h1:=hc.1
   have h2:=b5v _ _ hc.2
   subst h1;subst h2
   exact this
  ·exact c6r (fun x hx=>hM x (by simp [hx])) h
theorem d8d {E:Env} {M:List Fact} (hM:∀ x ∈ M,a0k E x) {call:FuncId → List AV → a05 → Option (AV × a05)} (hcall:a3l E call):a3l E (e7l M call):=by
 intro g args H v H' hrun
 unfold e7l at hrun
 split at hrun
 ·split at hrun
  ·rename_i v' hs
   cases hrun
   exact c6r hM hs
  ·exact hcall g args [] v H' hrun
 ·exact hcall g args _ v H' hrun
def b4l (E:Env) (call:FuncId → List AV → a05 → Option (AV × a05)) (lf:Nat) (f:FuncId) (args:List AV) (H:a05):Option (AV × a05):=
 match E.fn f with
 | none=>none
 | some i=>bif Nat.ble args.length i.ntmps then
  a6o E H.length i.ntmps (E.keep f) call lf 0 i.code (a3v 0 args) H fun e F' H'=>match e with
   | .exit _=>none
   | _=>match a1b E F' H' i.results with
    | some vs=>a1v (E.thaw f) H.length (a7j vs) H'
    | none=>none
  else none
def c7z (E:Env) (M:List Fact):Nat → FuncId → List AV → a05 → Option (AV × a05)
 | 0,_,_,_=>none
 | n + 1,f,args,H=>e7l M (b4l E (c7z E M n) (n + 1)) f args H
theorem b6j {E:Env} (ok:EnvOk E) (hdr:∀ f i,E.fn f = some i → a28 i.code = true) {call:FuncId → List AV → a05 → Option (AV × a05)} (hcall:a3l E call) (lf:Nat):a3l E (b4l E call lf):=by
 intro g args H v H' hrun I K ρ w cargs rel hn ha
 unfold b4l at hrun
 split at hrun
 ·cases hrun
 rename_i i hi
 rw [cond_eq_ite] at hrun
 split at hrun
 case isFalse=>cases hrun
 rename_i hle
 obtain ⟨fn,h1,h2,h3,h4,_⟩:=ok.fn g i hi
 refine calls_of_wp h1 h2 ?_
 rw [h3]
 let e:Entry:=⟨I,K,ρ,H.length,w,[]⟩
 have hnow:Now E e i.ntmps (a3v 0 args) H I ρ { tmps:=cargs.toArray ++ Array.replicate (i.ntmps - cargs.toArray.size) undef,defers:=[] } w:=
  ⟨fun _ h=>h,fun _ _=>rfl,Ext.refl _ _ _,rel,hn,b9g (by simpa [Nat.ble_eq] using hle) ha,Nat.le_refl _,rfl⟩
 refine c9u (e:=e) ok hcall i.code (hdr g i hi) ?_ hnow hrun
 intro x F' H1 I1 ρ1 a w1 hn1 hk
 have fin:(match a1b E F' H1 i.results with
  | some vs=>a1v (E.thaw g) H.length (a7j vs) H1
  | none=>none) = some (v,H') → a.defers = [] ∧ ∃ c,(results fn a.tmps).run E.P w1 = .ok c w1 ∧ ∃ c' I' ρ',Ending.returned c = .returned c' ∧ Ret E I K ρ H.length w I' ρ' H' w1 ∧ VRel I' w1 ρ' v c':=by
  intro hk
  split at hk
  case h_2=>cases hk
  rename_i vs hvs
  rw [← h4] at hvs
  obtain ⟨c,hr,hv⟩:=b58 ok hn1.rel hn1.frm.2 hvs
  obtain ⟨I2,ρ2,f1,f2,f3,f4,f5,f6⟩:=b9d hk hn1.low hn1.rel hn1.nrel hv
  exact ⟨hn1.defers,c,hr,c,I2,ρ2,rfl,⟨fun c hc=>f1 c (hn1.imm c hc),fun b hb=>by rw [f2 b hb];exact hn1.map b hb,hn1.ext,f3,f4,f5⟩,f6⟩
 cases x with
 | normal=>exact fin hk
 | exit id=>cases hk
 | ret=>exact fin hk
theorem b6x {E:Env} (ok:EnvOk E) (hdr:∀ f i,E.fn f = some i → a28 i.code = true) {M:List Fact} (hM:∀ x ∈ M,a0k E x):∀ n,a3l E (c7z E M n)
 | 0=>by intro g args H v H' hrun;simp [c7z] at hrun
 | n + 1=>d8d hM (b6j ok hdr (b6x ok hdr hM n) (n + 1))
theorem a10 {E:Env} (ok:EnvOk E) (hdr:∀ f i,E.fn f = some i → a28 i.code = true) {M:List Fact} (hM:∀ x ∈ M,a0k E x) (n:Nat) {g:Nat} {args:List AV} {v:AV} (h:b4l E (c7z E M n) n g args [] = some (v,[])) :
 a0k E ⟨g,args,v⟩:=b6j ok hdr (b6x ok hdr hM n) n g args [] v [] h
theorem c9m {E:Env}:∀ x ∈ ([]:List Fact),a0k E x:=by simp
theorem a0o {E:Env} {x:Fact} {M:List Fact} (hx:a0k E x) (hM:∀ x ∈ M,a0k E x):∀ y ∈ x :: M,a0k E y:=by
 intro y hy
 simp only [List.mem_cons] at hy
 rcases hy with rfl|hy
 ·exact hx
 ·exact hM y hy
end Go.Ax
