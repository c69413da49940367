/- AxCore: abstract values, abstract heap objects, and what they say of a world. No condition: definitions and their monotonicity. -/
import Derived.Orders
import Derived.Scope
import Derived.Laws.Sem
import Derived.Laws.CopyRow
import GoSem.Extern.Table
set_option linter.unusedSimpArgs false
set_option linter.unusedVariables false
namespace Go.Ax
inductive AV where
 | junk
 | bool (b:Bool)
 | int (k:IntKind) (n:Int)
 | str (s:List UInt8)
 | nilptr
 | nilslice
 | nilmap
 | nilfunc
 | nilifc
 | ptr (b i o:Nat)
 | iptr (cells:List AV)
 | slice (b off len:Nat) (cap:Option Nat)
 | islice (rows:List (List AV)) (cap:Option Nat)
 | map (b:Nat)
 | imap (ks vs:List AV) (bs:List Nat) (clock:Nat)
 | iset (ks:List Int)
 | yfn (b:Nat)
 | func (fn:Fn) (first captured:List AV)
 | iface (t:TypeId) (v:AV)
 | agg (cells:List AV)
 | tuple (vs:List AV)
 deriving Inhabited
structure Pl where
 blk:Nat
 off:Nat
 k:Nat
 room:Nat
abbrev PMap:=Nat → Option Pl
def noP:PMap:=fun _=>none
def USet (ks:List Int) (es:Array MapEntry) (cl:Nat):Prop:=
 (es.toList.map (·.key)).Perm (ks.map (Value.int .i64)) ∧ (∀ e ∈ es.toList,e.val = .bool true) ∧ ks.Nodup ∧ (es.toList.map (·.born)).Nodup ∧ ∀ e ∈ es.toList,e.born < cl
mutual
def VRel (I:Nat → Prop) (w:World):PMap → AV → Value → Prop
 | _,.junk,_=>True
 | _,.bool b,v=>v = .bool b
 | _,.int k n,v=>v = .int k n
 | _,.str s,v=>∃ t:ByteArray,v = .string t ∧ t.data.toList = s
 | _,.nilptr,v=>v = .pointer none
 | _,.nilslice,v=>v = .slice none 0 0
 | _,.nilmap,v=>v = .map none
 | _,.nilfunc,v=>v = .nilFunc
 | _,.nilifc,v=>v = .nilIface
 | ρ,.ptr b i o,v=>∃ m,ρ b = some m ∧ v = .pointer (some ⟨m.blk,m.off + i * m.k + o,none⟩)
 | _,.iptr cs,v=>∃ c off,v = .pointer (some ⟨c,off,none⟩) ∧ I c ∧ VAt I w noP cs c off
 | ρ,.slice b off len cap,v=>∃ a c,v = .slice (some a) len c ∧ len ≤ c ∧ (∀ n,cap = some n → c = n) ∧
  (c = 0 ∨ ∃ m,ρ b = some m ∧ a = ⟨m.blk,m.off + off * m.k,none⟩ ∧ m.off + (off + c) * m.k ≤ m.room)
 | _,.islice rows cap,v=>∃ a c k,v = .slice (some a) rows.length c ∧ rows.length ≤ c ∧ (∀ n,cap = some n → c = n) ∧
  (rows = [] ∨ (a.spot = none ∧ I a.block ∧ VRows I w k noP rows a.block a.off))
 | ρ,.map b,v=>∃ m,ρ b = some m ∧ v = .map (some m.blk)
 | _,.imap ks vs bs clock,v=>∃ c es,v = .map (some c) ∧ I c ∧ w.heap[c]? = some (.map es clock) ∧
  VRels I w noP ks (es.toList.map (·.key)) ∧ VRels I w noP vs (es.toList.map (·.val)) ∧ es.toList.map (·.born) = bs
 | _,.iset ks,v=>∃ c es cl,v = .map (some c) ∧ I c ∧ w.heap[c]? = some (.map es cl) ∧ USet ks es cl
 | ρ,.yfn b,v=>∃ m,ρ b = some m ∧ v = .func (.yield m.blk) #[] #[]
 | ρ,.func fn fs cs,v=>∃ fs' cs':Array Value,v = .func fn fs' cs' ∧ VRels I w ρ fs fs'.toList ∧ VRels I w ρ cs cs'.toList
 | ρ,.iface t x,v=>∃ x',v = .iface t x' ∧ VRel I w ρ x x'
 | ρ,.agg cs,v=>∃ cs':Array Value,v = .agg cs' ∧ VRels I w ρ cs cs'.toList
 | ρ,.tuple cs,v=>∃ cs':Array Value,v = .tuple cs' ∧ VRels I w ρ cs cs'.toList
def VRels (I:Nat → Prop) (w:World):PMap → List AV → List Value → Prop
 | _,[],l=>l = []
 | ρ,v :: vs,l=>∃ c cs,l = c :: cs ∧ VRel I w ρ v c ∧ VRels I w ρ vs cs
def VAt (I:Nat → Prop) (w:World):PMap → List AV → Nat → Nat → Prop
 | _,[],_,_=>True
 | ρ,v :: vs,b,off=>(∃ c,w.cell? ⟨b,off,none⟩ = some c ∧ VRel I w ρ v c) ∧ VAt I w ρ vs b (off + 1)
def VRows (I:Nat → Prop) (w:World) (k:Nat):PMap → List (List AV) → Nat → Nat → Prop
 | _,[],_,_=>True
 | ρ,r :: rs,b,off=>r.length = k ∧ VAt I w ρ r b off ∧ VRows I w k ρ rs b (off + k)
end
theorem cell?_congr {w w':World} {b o:Nat} (h:w'.heap[b]? = w.heap[b]?):w'.cell? ⟨b,o,none⟩ = w.cell? ⟨b,o,none⟩:=by
 simp [World.cell?,h]
section
variable {I I':Nat → Prop} {w w':World}
mutual
theorem VRel.mono (hI:∀ c,I c → I' c) (hw:∀ c,I c → w'.heap[c]? = w.heap[c]?) :
 ∀ {ρ ρ':PMap} (v:AV) {c:Value},(∀ b m,ρ b = some m → ρ' b = some m) → VRel I w ρ v c → VRel I' w' ρ' v c
 | ρ,ρ',v,c,hρ,h=>by
  cases v with
  | junk=>simp [VRel]
  | bool b=>simpa [VRel] using h
  | int k n=>simpa [VRel] using h
  | str s=>simpa [VRel] using h
  | nilptr=>simpa [VRel] using h
  | nilslice=>simpa [VRel] using h
  | nilmap=>simpa [VRel] using h
  | nilfunc=>simpa [VRel] using h
  | nilifc=>simpa [VRel] using h
  | ptr b i o=>
   simp only [VRel] at h ⊢
   obtain ⟨m,hm,rfl⟩:=h
   exact ⟨m,hρ b m hm,rfl⟩
  | iptr cs=>
   simp only [VRel] at h ⊢
   obtain ⟨b,off,rfl,hb,h⟩:=h
   exact ⟨b,off,rfl,hI _ hb,VAt.mono hI hw cs (fun _ _ h=>h) (hw _ hb) h⟩
  | slice b off len cap=>
   simp only [VRel] at h ⊢
   obtain ⟨a,n,rfl,h1,h2,h3⟩:=h
   refine ⟨a,n,rfl,h1,h2,h3.imp id ?_⟩
   rintro ⟨m,hm,rfl,hr⟩
   exact ⟨m,hρ b m hm,rfl,hr⟩
  | islice rows cap=>
   simp only [VRel] at h ⊢
   obtain ⟨a,n,k,rfl,h1,h2,h3⟩:=h
   refine ⟨a,n,k,rfl,h1,h2,h3.imp id ?_⟩
   rintro ⟨hs,hb,h⟩
   exact ⟨hs,hI _ hb,VRows.mono hI hw rows (fun _ _ h=>h) (hw _ hb) h⟩
  | map b=>
   simp only [VRel] at h ⊢
   obtain ⟨m,hm,rfl⟩:=h
   exact ⟨m,hρ b m hm,rfl⟩
  | imap ks vs bs clock=>
   simp only [VRel] at h ⊢
   obtain ⟨b,es,rfl,hb,he,h1,h2,h3⟩:=h
   exact ⟨b,es,rfl,hI _ hb,by rw [hw _ hb,he],VRels.mono hI hw ks (fun _ _ h=>h) h1,VRels.mono hI hw vs (fun _ _ h=>h) h2,h3⟩
  | iset ks=>
   simp only [VRel] at h ⊢
   obtain ⟨b,es,cl,rfl,hb,he,h1⟩:=h
   exact ⟨b,es,cl,rfl,hI _ hb,by rw [hw _ hb,he],h1⟩
  | yfn b=>
   simp only [VRel] at h ⊢
   obtain ⟨m,hm,rfl⟩:=h
   exact ⟨m,hρ b m hm,rfl⟩
  | func fn fs cs=>
   simp only [VRel] at h ⊢
   obtain ⟨fs',cs',rfl,h1,h2⟩:=h
   exact ⟨fs',cs',rfl,VRels.mono hI hw fs hρ h1,VRels.mono hI hw cs hρ h2⟩
  | iface t x=>
   simp only [VRel] at h ⊢
   obtain ⟨x',rfl,h⟩:=h
   exact ⟨x',rfl,VRel.mono hI hw x hρ h⟩
  | agg cs=>
   simp only [VRel] at h ⊢
   obtain ⟨cs',rfl,h⟩:=h
   exact ⟨cs',rfl,VRels.mono hI hw cs hρ h⟩
  | tuple cs=>
   simp only [VRel] at h ⊢
   obtain ⟨cs',rfl,h⟩:=h
   exact ⟨cs',rfl,VRels.mono hI hw cs hρ h⟩
theorem VRels.mono (hI:∀ c,I c → I' c) (hw:∀ c,I c → w'.heap[c]? = w.heap[c]?) :
 ∀ {ρ ρ':PMap} (vs:List AV) {cs:List Value},(∀ b m,ρ b = some m → ρ' b = some m) → VRels I w ρ vs cs → VRels I' w' ρ' vs cs
 | ρ,ρ',[],cs,hρ,h=>by simpa [VRels] using h
 | ρ,ρ',v :: vs,cs,hρ,h=>by
  simp only [VRels] at h ⊢
  obtain ⟨c,cs',rfl,h1,h2⟩:=h
  exact ⟨c,cs',rfl,VRel.mono hI hw v hρ h1,VRels.mono hI hw vs hρ h2⟩
theorem VAt.mono (hI:∀ c,I c → I' c) (hw:∀ c,I c → w'.heap[c]? = w.heap[c]?) :
 ∀ {ρ ρ':PMap} (vs:List AV) {b off:Nat},(∀ b m,ρ b = some m → ρ' b = some m) → w'.heap[b]? = w.heap[b]? → VAt I w ρ vs b off → VAt I' w' ρ' vs b off
 | ρ,ρ',[],b,off,hρ,hb,h=>by simp [VAt]
 | ρ,ρ',v :: vs,b,off,hρ,hb,h=>by
  simp only [VAt] at h ⊢
  obtain ⟨⟨c,hc,h1⟩,h2⟩:=h
  exact ⟨⟨c,by rw [cell?_congr hb,hc],VRel.mono hI hw v hρ h1⟩,VAt.mono hI hw vs hρ hb h2⟩
theorem VRows.mono {k:Nat} (hI:∀ c,I c → I' c) (hw:∀ c,I c → w'.heap[c]? = w.heap[c]?) :
 ∀ {ρ ρ':PMap} (rs:List (List AV)) {b off:Nat},(∀ b m,ρ b = some m → ρ' b = some m) → w'.heap[b]? = w.heap[b]? → VRows I w k ρ rs b off → VRows I' w' k ρ' rs b off
 | ρ,ρ',[],b,off,hρ,hb,h=>by simp [VRows]
 | ρ,ρ',r :: rs,b,off,hρ,hb,h=>by
  simp only [VRows] at h ⊢
  obtain ⟨h0,h1,h2⟩:=h
  exact ⟨h0,VAt.mono hI hw r hρ hb h1,VRows.mono hI hw rs hρ hb h2⟩
end
end
end Go.Ax
/- AxRel: abstract heaps against worlds; what a step may change; renaming of block numbers. -/
namespace Go.Ax
inductive YSt where
 | ready
 | busy
 | done (id:Option Nat)
 deriving Inhabited,DecidableEq
structure RInfo where
 N:Nat
 ps:List Nat
 asg:Code
 body:Code
 fid:Nat
structure GTab (α:Type) where
 glob:Nat → Option α
 rnd:Nat → Option RInfo
instance {α:Type}:CoeFun (GTab α) (fun _=>Nat → Option α):=⟨GTab.glob⟩
def noRF:Code → Bool
 | .rangeFunc _ _ _ _=>false
 | .seq a b=>noRF a && noRF b
 | .cond _ a b=>noRF a && noRF b
 | .block _ b=>noRF b
 | .loop b=>noRF b
 | .scope b=>noRF b
 | _=>true
def jumpOf:Option Nat → Code
 | none=>.ret
 | some id=>.exit id
inductive AObj where
 | row (k:Nat) (rows:List (List AV))
 | map (ks vs:List AV) (bs:List Nat) (clock:Nat)
 | siter (s:List UInt8) (pos:Nat)
 | uset (ks:List Int)
 | miter (ks vis:List Int) (arm:Option (Option Int))
 | yloop (y:Nat) (F:List (Nat × AV)) (st:YSt)
 deriving Inhabited
def slotF:List (Nat × AV) → Nat → AV
 | [],_=>.junk
 | (s,v) :: r,t=>bif Nat.beq s t then v else slotF r t
def YRel (G:GTab (List AV)) (I:Nat → Prop) (w:World) (ρ:PMap) (l:Nat) (y:Nat) (F:List (Nat × AV)) (st:YSt):Prop:=
 ∃ (ri:RInfo) (r:Loop),G.rnd y = some ri ∧ w.heap[l]? = some (.loop r) ∧ r.tmps.size = ri.N ∧ r.params.toList = ri.ps ∧ r.assign = ri.asg ∧ r.body = ri.body ∧ (∀ s,VRel I w ρ (slotF F s) (r.tmps.getD s undef)) ∧
  (match st with
   | .ready=>r.state = .ready ∧ r.pending = none
   | .busy=>r.state = .busy
   | .done j=>r.state = .done ∧ r.pending = some (jumpOf j))
def Seen (es:Array MapEntry) (seen:Array Nat) (vis:List Int):Prop:=
 ∃ es':List MapEntry,(∀ e ∈ es',e ∈ es.toList) ∧ es'.map (·.born) = seen.toList ∧ es'.map (·.key) = vis.map (Value.int .i64)
abbrev FHeap:=Nat → Option AObj
def ORel (G:GTab (List AV)) (I:Nat → Prop) (w:World) (ρ:PMap) (m:Pl):AObj → Prop
 | .row k rows=>m.k = k ∧ 0 < k ∧ (∃ arr e,w.heap[m.blk]? = some (.cells arr e (0,0)) ∧ arr.size = m.room ∧ m.off + rows.length * k ≤ m.room) ∧ VRows I w k ρ rows m.blk m.off
 | .map ks vs bs clock=>∃ es,w.heap[m.blk]? = some (.map es clock) ∧ VRels I w ρ ks (es.toList.map (·.key)) ∧ VRels I w ρ vs (es.toList.map (·.val)) ∧ es.toList.map (·.born) = bs
 | .siter s pos=>m.off = 0 ∧ ∃ t,w.heap[m.blk]? = some (.stringIter t pos) ∧ t.data.toList = s
 | .uset ks=>∃ es cl,w.heap[m.blk]? = some (.map es cl) ∧ USet ks es cl
 | .miter ks vis _=>m.off = 0 ∧ ((ks = [] ∧ vis = [] ∧ w.heap[m.blk]? = some (.mapIter none 0 #[] 0)) ∨
  ∃ c es cl seen,I c ∧ w.heap[c]? = some (.map es cl) ∧ USet ks es cl ∧ w.heap[m.blk]? = some (.mapIter (some c) cl seen cl) ∧ Seen es seen vis)
 | .yloop y F st=>YRel G I w ρ m.blk y F st
structure HRel (G:GTab (List AV)) (I K:Nat → Prop) (ρ:PMap) (h:FHeap) (w:World):Prop where
 live:∀ b o,h b = some o → ∃ m,ρ b = some m ∧ ¬ I m.blk ∧ ¬ K m.blk ∧ ORel G I w ρ m o
 inj:∀ b b' m m',(h b).isSome → (h b').isSome → ρ b = some m → ρ b' = some m' → m.blk = m'.blk → b = b'
 dom:∀ b m,ρ b = some m → m.blk < w.heap.size
 imm:∀ c,I c → c < w.heap.size
 kept:∀ c,K c → c < w.heap.size
 apart:∀ c,I c → ¬ K c
 glob:∀ g cs,G g = some cs → I g ∧ VAt I w noP cs g 0
structure Ext (I K:Nat → Prop) (w w':World):Prop where
 os:w'.os = w.os
 tape:w'.tape = w.tape
 output:w'.output = w.output
 size:w.heap.size ≤ w'.heap.size
 keep:∀ c,I c ∨ K c → w'.heap[c]? = w.heap[c]?
theorem Ext.refl (I K:Nat → Prop) (w:World):Ext I K w w:=⟨rfl,rfl,rfl,Nat.le_refl _,fun _ _=>rfl⟩
theorem Ext.trans {I I' K:Nat → Prop} {w w' w'':World} (hI:∀ c,I c → I' c) (h:Ext I K w w') (k:Ext I' K w' w''):Ext I K w w'':=
 ⟨k.os.trans h.os,k.tape.trans h.tape,k.output.trans h.output,Nat.le_trans h.size k.size,
  fun c hc=>(k.keep c (hc.imp (hI c) id)).trans (h.keep c hc)⟩
theorem ORel.mono {G:GTab (List AV)} {I I':Nat → Prop} {w w':World} {ρ ρ':PMap} {m:Pl} (o:AObj) (hI:∀ c,I c → I' c) (hw:∀ c,I c → w'.heap[c]? = w.heap[c]?)
 (hρ:∀ b m,ρ b = some m → ρ' b = some m) (hb:w'.heap[m.blk]? = w.heap[m.blk]?) (h:ORel G I w ρ m o):ORel G I' w' ρ' m o:=by
 cases o with
 | row k rows=>
  obtain ⟨h1,h2,⟨arr,e,h3,h4⟩,h5⟩:=h
  exact ⟨h1,h2,⟨arr,e,by rw [hb,h3],h4⟩,VRows.mono hI hw rows hρ hb h5⟩
 | map ks vs bs clock=>
  obtain ⟨es,h1,h2,h3,h4⟩:=h
  exact ⟨es,by rw [hb,h1],VRels.mono hI hw ks hρ h2,VRels.mono hI hw vs hρ h3,h4⟩
 | siter s pos=>
  obtain ⟨h0,t,h1,h2⟩:=h
  exact ⟨h0,t,by rw [hb,h1],h2⟩
 | uset ks=>
  obtain ⟨es,cl,h1,h2⟩:=h
  exact ⟨es,cl,by rw [hb,h1],h2⟩
 | miter ks vis arm=>
  obtain ⟨h0,h⟩:=h
  rcases h with ⟨h1,h2,h3⟩|⟨c,es,cl,seen,h1,h2,h3,h4,h5⟩
  ·exact ⟨h0,.inl ⟨h1,h2,by rw [hb,h3]⟩⟩
  ·exact ⟨h0,.inr ⟨c,es,cl,seen,hI c h1,by rw [hw c h1,h2],h3,by rw [hb,h4],h5⟩⟩
 | yloop y F st=>
  obtain ⟨ri,r,h0,h1,h2,h3,h4,h5,h6,h7⟩:=h
  exact ⟨ri,r,h0,by rw [hb,h1],h2,h3,h4,h5,fun s=>VRel.mono hI hw _ hρ (h6 s),h7⟩
structure Stepped (G:GTab (List AV)) (I K:Nat → Prop) (ρ:PMap) (w:World) (I':Nat → Prop) (ρ':PMap) (h':FHeap) (w':World):Prop where
 imm:∀ c,I c → I' c
 map:∀ b m,ρ b = some m → ρ' b = some m
 ext:Ext I K w w'
 rel:HRel G I' K ρ' h' w'
theorem Stepped.vrel {G I K ρ w I' ρ' h' w'} (s:Stepped G I K ρ w I' ρ' h' w') {v:AV} {c:Value} (h:VRel I w ρ v c):VRel I' w' ρ' v c:=
 VRel.mono s.imm (fun c hc=>s.ext.keep c (.inl hc)) v s.map h
theorem Stepped.vrels {G I K ρ w I' ρ' h' w'} (s:Stepped G I K ρ w I' ρ' h' w') {v:List AV} {c:List Value} (h:VRels I w ρ v c):VRels I' w' ρ' v c:=
 VRels.mono s.imm (fun c hc=>s.ext.keep c (.inl hc)) v s.map h
theorem Stepped.refl {G I K ρ h w} (r:HRel G I K ρ h w):Stepped G I K ρ w I ρ h w:=
 ⟨fun _ h=>h,fun _ _ h=>h,Ext.refl _ _ _,r⟩
def SameMem (w w':World):Prop:=w'.heap = w.heap ∧ w'.tape = w.tape ∧ w'.os = w.os ∧ w'.output = w.output
section same
variable {I:Nat → Prop} {w w':World}
theorem SameMem.ext (s:SameMem w w') (I K:Nat → Prop):Ext I K w w':=
 ⟨s.2.2.1,s.2.1,s.2.2.2,by rw [s.1];exact Nat.le_refl _,fun _ _=>by rw [s.1]⟩
theorem HRel.same {G I K ρ h w w'} (r:HRel G I K ρ h w) (s:SameMem w w'):HRel G I K ρ h w':={
 live b o hb:=by
  obtain ⟨m,h1,h2,h3,h4⟩:=r.live b o hb
  exact ⟨m,h1,h2,h3,ORel.mono o (fun _ h=>h) (fun _ _=>by rw [s.1]) (fun _ _ h=>h) (by rw [s.1]) h4⟩
 inj:=r.inj
 dom b m hb:=by rw [s.1];exact r.dom b m hb
 imm c hc:=by rw [s.1];exact r.imm c hc
 kept c hc:=by rw [s.1];exact r.kept c hc
 apart:=r.apart
 glob g cs hg:=⟨(r.glob g cs hg).1,VAt.mono (fun _ h=>h) (fun _ _=>by rw [s.1]) cs (fun _ _ h=>h) (by rw [s.1]) (r.glob g cs hg).2⟩}
theorem Stepped.same {G I K ρ h w w'} (r:HRel G I K ρ h w) (s:SameMem w w'):Stepped G I K ρ w I ρ h w':=
 ⟨fun _ h=>h,fun _ _ h=>h,s.ext _ _,r.same s⟩
end same
theorem HRel.fewer {G I K ρ h h' w} (r:HRel G I K ρ h w) (hh:∀ b o,h' b = some o → h b = some o):HRel G I K ρ h' w:={
 live b o hb:=r.live b o (hh b o hb)
 inj b b' m m' hb hb':=by
  refine r.inj b b' m m' ?_ ?_
  ·obtain ⟨o,ho⟩:=Option.isSome_iff_exists.1 hb;rw [hh b o ho];rfl
  ·obtain ⟨o,ho⟩:=Option.isSome_iff_exists.1 hb';rw [hh b' o ho];rfl
 dom:=r.dom
 imm:=r.imm
 kept:=r.kept
 apart:=r.apart
 glob:=r.glob}
/-! ### renaming -/
mutual
def ren (π:Nat → Option Nat):AV → AV
 | .ptr b i o=>match π b with|some b'=>.ptr b' i o|none=>.junk
 | .slice b off len cap=>match π b with|some b'=>.slice b' off len cap|none=>.junk
 | .map b=>match π b with|some b'=>.map b'|none=>.junk
 | .func fn fs cs=>.func fn (renL π fs) (renL π cs)
 | .iface t x=>.iface t (ren π x)
 | .agg cs=>.agg (renL π cs)
 | .tuple cs=>.tuple (renL π cs)
 | .iptr cs=>.iptr cs
 | .islice rows cap=>.islice rows cap
 | .imap ks vs bs clock=>.imap ks vs bs clock
 | .iset ks=>.iset ks
 | .yfn b=>match π b with|some b'=>.yfn b'|none=>.junk
 | .junk=>.junk
 | .bool b=>.bool b
 | .int k n=>.int k n
 | .str s=>.str s
 | .nilptr=>.nilptr
 | .nilslice=>.nilslice
 | .nilmap=>.nilmap
 | .nilfunc=>.nilfunc
 | .nilifc=>.nilifc
def renL (π:Nat → Option Nat):List AV → List AV
 | []=>[]
 | v :: vs=>ren π v :: renL π vs
end
theorem renL_eq (π:Nat → Option Nat):∀ l:List AV,renL π l = l.map (ren π)
 | []=>rfl
 | v :: vs=>by simp [renL,renL_eq π vs]
def renObj (π:Nat → Option Nat):AObj → AObj
 | .row k rows=>.row k (rows.map fun r=>r.map (ren π))
 | .map ks vs bs clock=>.map (ks.map (ren π)) (vs.map (ren π)) bs clock
 | .siter s pos=>.siter s pos
 | .uset ks=>.uset ks
 | .miter ks vis arm=>.miter ks vis arm
 | .yloop y F st=>.yloop y (F.map fun x=>(x.1,ren π x.2)) st
section
variable {I:Nat → Prop} {w:World} {π:Nat → Option Nat} {ρ ρ':PMap}
mutual
theorem VRel.ren (hπ:∀ b b' m,π b = some b' → ρ b = some m → ρ' b' = some m):∀ (v:AV) {c:Value},VRel I w ρ v c → VRel I w ρ' (Ax.ren π v) c
 | .ptr b i o,c,h=>by
  simp only [VRel] at h
  obtain ⟨m,hm,rfl⟩:=h
  cases hb:π b with
  | none=>simp [Ax.ren,hb,VRel]
  | some b'=>simp only [Ax.ren,hb,VRel];exact ⟨m,hπ b b' m hb hm,rfl⟩
 | .slice b off len cap,c,h=>by
  simp only [VRel] at h
  obtain ⟨a,n,rfl,h1,h2,h3⟩:=h
  cases hb:π b with
  | none=>simp [Ax.ren,hb,VRel]
  | some b'=>
   simp only [Ax.ren,hb,VRel]
   refine ⟨a,n,rfl,h1,h2,h3.imp id ?_⟩
   rintro ⟨m,hm,rfl,hr⟩
   exact ⟨m,hπ b b' m hb hm,rfl,hr⟩
 | .map b,c,h=>by
  simp only [VRel] at h
  obtain ⟨m,hm,rfl⟩:=h
  cases hb:π b with
  | none=>simp [Ax.ren,hb,VRel]
  | some b'=>simp only [Ax.ren,hb,VRel];exact ⟨m,hπ b b' m hb hm,rfl⟩
 | .func fn fs cs,c,h=>by
  simp only [VRel,Ax.ren] at h ⊢
  obtain ⟨fs',cs',rfl,h1,h2⟩:=h
  exact ⟨fs',cs',rfl,VRels.ren hπ fs h1,VRels.ren hπ cs h2⟩
 | .iface t x,c,h=>by
  simp only [VRel,Ax.ren] at h ⊢
  obtain ⟨x',rfl,h⟩:=h
  exact ⟨x',rfl,VRel.ren hπ x h⟩
 | .agg cs,c,h=>by
  simp only [VRel,Ax.ren] at h ⊢
  obtain ⟨cs',rfl,h⟩:=h
  exact ⟨cs',rfl,VRels.ren hπ cs h⟩
 | .tuple cs,c,h=>by
  simp only [VRel,Ax.ren] at h ⊢
  obtain ⟨cs',rfl,h⟩:=h
  exact ⟨cs',rfl,VRels.ren hπ cs h⟩
 | .iptr cs,c,h=>by simpa [VRel,Ax.ren] using h
 | .islice rows cap,c,h=>by simpa only [VRel,Ax.ren] using h
 | .imap ks vs bs clock,c,h=>by simpa only [VRel,Ax.ren] using h
 | .iset ks,c,h=>by simpa only [VRel,Ax.ren] using h
 | .yfn b,c,h=>by
  simp only [VRel] at h
  obtain ⟨m,hm,rfl⟩:=h
  cases hb:π b with
  | none=>simp [Ax.ren,hb,VRel]
  | some b'=>simp only [Ax.ren,hb,VRel];exact ⟨m,hπ b b' m hb hm,rfl⟩
 | .junk,c,h=>by simp [VRel,Ax.ren]
 | .bool b,c,h=>by simpa [VRel,Ax.ren] using h
 | .int k n,c,h=>by simpa [VRel,Ax.ren] using h
 | .str s,c,h=>by simpa [VRel,Ax.ren] using h
 | .nilptr,c,h=>by simpa [VRel,Ax.ren] using h
 | .nilslice,c,h=>by simpa [VRel,Ax.ren] using h
 | .nilmap,c,h=>by simpa [VRel,Ax.ren] using h
 | .nilfunc,c,h=>by simpa [VRel,Ax.ren] using h
 | .nilifc,c,h=>by simpa [VRel,Ax.ren] using h
theorem VRels.ren (hπ:∀ b b' m,π b = some b' → ρ b = some m → ρ' b' = some m):∀ (vs:List AV) {cs:List Value},VRels I w ρ vs cs → VRels I w ρ' (renL π vs) cs
 | [],cs,h=>by simpa [VRels,renL] using h
 | v :: vs,cs,h=>by
  simp only [VRels,renL] at h ⊢
  obtain ⟨c,cs',rfl,h1,h2⟩:=h
  exact ⟨c,cs',rfl,VRel.ren hπ v h1,VRels.ren hπ vs h2⟩
end
theorem VAt.ren (hπ:∀ b b' m,π b = some b' → ρ b = some m → ρ' b' = some m):∀ (vs:List AV) {b off:Nat},VAt I w ρ vs b off → VAt I w ρ' (vs.map (Ax.ren π)) b off
 | [],b,off,h=>by simp [VAt]
 | v :: vs,b,off,h=>by
  simp only [VAt,List.map_cons] at h ⊢
  obtain ⟨⟨c,hc,h1⟩,h2⟩:=h
  exact ⟨⟨c,hc,VRel.ren hπ v h1⟩,VAt.ren hπ vs h2⟩
theorem VRows.ren {k:Nat} (hπ:∀ b b' m,π b = some b' → ρ b = some m → ρ' b' = some m):∀ (rs:List (List AV)) {b off:Nat},VRows I w k ρ rs b off →
 VRows I w k ρ' (rs.map fun r=>r.map (Ax.ren π)) b off
 | [],b,off,h=>by simp [VRows]
 | r :: rs,b,off,h=>by
  simp only [VRows,List.map_cons] at h ⊢
  obtain ⟨h0,h1,h2⟩:=h
  exact ⟨by simpa using h0,VAt.ren hπ r h1,VRows.ren hπ rs h2⟩
theorem slotF_ren (π:Nat → Option Nat):∀ (F:List (Nat × AV)) (s:Nat),slotF (F.map fun x=>(x.1,Ax.ren π x.2)) s = Ax.ren π (slotF F s)
 | [],s=>by simp [slotF,Ax.ren]
 | (t,v) :: F,s=>by
  simp only [List.map_cons,slotF,slotF_ren π F s]
  cases Nat.beq t s<;>rfl
theorem ORel.ren {G:GTab (List AV)} {m:Pl} (hπ:∀ b b' m,π b = some b' → ρ b = some m → ρ' b' = some m) (o:AObj) (h:ORel G I w ρ m o):ORel G I w ρ' m (renObj π o):=by
 cases o with
 | row k rows=>
  obtain ⟨h1,h2,h3,h5⟩:=h
  exact ⟨h1,h2,by simpa using h3,VRows.ren hπ rows h5⟩
 | map ks vs bs clock=>
  obtain ⟨es,h1,h2,h3,h4⟩:=h
  exact ⟨es,h1,by rw [← renL_eq];exact VRels.ren hπ ks h2,by rw [← renL_eq];exact VRels.ren hπ vs h3,h4⟩
 | siter s pos=>exact h
 | uset ks=>exact h
 | miter ks vis arm=>exact h
 | yloop y F st=>
  obtain ⟨ri,r,h0,h1,h2,h3,h4,h5,h6,h7⟩:=h
  refine ⟨ri,r,h0,h1,h2,h3,h4,h5,fun s=>?_,h7⟩
  rw [slotF_ren]
  exact VRel.ren hπ _ (h6 s)
end
end Go.Ax
/- AxEff: what an operation may do to the abstract heap, and that the relation follows. -/
namespace Go.Ax
inductive Eff where
 | none
 | new (o:AObj)
 | set (b:Nat) (o:AObj)
 | kill (b:Nat) (o:AObj)
def PMap.set (ρ:PMap) (n:Nat) (m:Pl):PMap:=fun b=>if b = n then some m else ρ b
def FHeap.set (h:FHeap) (n:Nat) (o:Option AObj):FHeap:=fun b=>if b = n then o else h b
def FHeap.eff (h:FHeap) (n:Nat):Eff → FHeap
 | .none=>h
 | .new o=>h.set n (some o)
 | .set b o=>h.set b (some o)
 | .kill b o=>(h.set b Option.none).set n (some o)
def Eff.fresh:Eff → Bool
 | .new _|.kill _ _=>true
 | _=>false
def Moves (ρ ρ':PMap) (n:Nat) (e:Eff):Prop:=(∀ b,b ≠ n → ρ' b = ρ b) ∧ (e.fresh = false → ρ' = ρ)
theorem Moves.same (ρ:PMap) (n:Nat) (e:Eff):Moves ρ ρ n e:=⟨fun _ _=>rfl,fun _=>rfl⟩
theorem Moves.set (ρ:PMap) (n:Nat) {e:Eff} (m:Pl) (he:e.fresh = true):Moves ρ (ρ.set n m) n e:=
 ⟨fun b hb=>by simp [PMap.set,hb],fun h=>by simp [he] at h⟩
theorem PMap.set_old {ρ:PMap} {n:Nat} {m:Pl} (hn:ρ n = Option.none):∀ b m',ρ b = some m' → ρ.set n m b = some m':=by
 intro b m' h
 unfold PMap.set
 split
 ·subst b;simp [hn] at h
 ·exact h
section
variable {G:GTab (List AV)} {I K:Nat → Prop} {ρ:PMap} {h:FHeap} {w w':World} {n:Nat}
theorem stepped_new (r:HRel G I K ρ h w) (_:h n = none) (hρ:ρ n = none) {ob:Obj} {o:AObj} {m:Pl}
 (hw:w'.heap = w.heap.push ob) (ht:w'.tape = w.tape) (hos:w'.os = w.os) (hout:w'.output = w.output)
 (hm:m.blk = w.heap.size) (ho:ORel G I w' (ρ.set n m) m o):Stepped G I K ρ w I (ρ.set n m) (h.eff n (.new o)) w':=by
 have hold:∀ c,c < w.heap.size → w'.heap[c]? = w.heap[c]?:=by
  intro c hc;rw [hw,Array.getElem?_push,if_neg (by omega)]
 have hset:=PMap.set_old (m:=m) hρ
 refine ⟨fun _ h=>h,hset,⟨hos,ht,hout,by rw [hw];simp,?_⟩,?_⟩
 ·rintro c (hc|hc)
  ·exact hold c (r.imm c hc)
  ·exact hold c (r.kept c hc)
 ·refine ⟨?_,?_,?_,?_,?_,r.apart,?_⟩
  ·intro b o' hb
   simp only [FHeap.eff,FHeap.set] at hb
   split at hb
   ·subst b
    cases hb
    refine ⟨m,by simp [PMap.set],fun hc=>?_,fun hc=>?_,ho⟩
    ·have:=r.imm _ hc;omega
    ·have:=r.kept _ hc;omega
   ·obtain ⟨m',h1,h2,h3,h4⟩:=r.live b o' hb
    exact ⟨m',hset b m' h1,h2,h3,ORel.mono o' (fun _ h=>h) (fun c hc=>hold c (r.imm c hc)) hset (hold _ (r.dom b m' h1)) h4⟩
  ·intro b b' m1 m2 hb hb' h1 h2 he
   simp only [FHeap.eff,FHeap.set,PMap.set] at hb hb' h1 h2
   split at hb<;>split at hb'
   ·omega
   ·rename_i hbn hb'n
    rw [if_pos hbn] at h1;rw [if_neg hb'n] at h2
    cases h1
    have:=r.dom b' m2 h2
    omega
   ·rename_i hbn hb'n
    rw [if_neg hbn] at h1;rw [if_pos hb'n] at h2
    cases h2
    have:=r.dom b m1 h1
    omega
   ·rename_i hbn hb'n
    rw [if_neg hbn] at h1;rw [if_neg hb'n] at h2
    exact r.inj b b' m1 m2 hb hb' h1 h2 he
  ·intro b m' hb
   rw [hw];simp only [Array.size_push]
   simp only [PMap.set] at hb
   split at hb
   ·cases hb;omega
   ·have:=r.dom b m' hb;omega
  ·intro c hc;rw [hw];simp only [Array.size_push];have:=r.imm c hc;omega
  ·intro c hc;rw [hw];simp only [Array.size_push];have:=r.kept c hc;omega
  ·intro g cs hg
   obtain ⟨h1,h2⟩:=r.glob g cs hg
   exact ⟨h1,VAt.mono (fun _ h=>h) (fun c hc=>hold c (r.imm c hc)) cs (fun _ _ h=>h) (hold g (r.imm g h1)) h2⟩
theorem stepped_set (r:HRel G I K ρ h w) {b:Nat} {o0 o:AObj} {m:Pl} (hb:h b = some o0) (hρ:ρ b = some m)
 (hsize:w'.heap.size = w.heap.size) (hw:∀ c,c ≠ m.blk → w'.heap[c]? = w.heap[c]?) (ht:w'.tape = w.tape) (hos:w'.os = w.os) (hout:w'.output = w.output)
 (ho:ORel G I w' ρ m o):Stepped G I K ρ w I ρ (h.eff n (.set b o)) w':=by
 obtain ⟨m',hm',hnI,hnK,_⟩:=r.live b o0 hb
 obtain rfl:m = m':=Option.some.inj (hρ.symm.trans hm')
 have hIw:∀ c,I c → w'.heap[c]? = w.heap[c]?:=fun c hc=>hw c (fun e=>hnI (e ▸ hc))
 refine ⟨fun _ h=>h,fun _ _ h=>h,⟨hos,ht,hout,by omega,?_⟩,?_⟩
 ·rintro c (hc|hc)
  ·exact hIw c hc
  ·exact hw c (fun e=>hnK (e ▸ hc))
 ·refine ⟨?_,?_,?_,?_,?_,r.apart,?_⟩
  ·intro b' o' hb'
   simp only [FHeap.eff,FHeap.set] at hb'
   split at hb'
   ·rename_i he
    cases hb'
    subst he
    exact ⟨m,hρ,hnI,hnK,ho⟩
   ·rename_i hne
    obtain ⟨m',h1,h2,h3,h4⟩:=r.live b' o' hb'
    refine ⟨m',h1,h2,h3,ORel.mono o' (fun _ h=>h) hIw (fun _ _ h=>h) (hw _ ?_) h4⟩
    intro e
    exact hne (r.inj b' b m' m (by simp [hb']) (by simp [hb]) h1 hρ e)
  ·intro b1 b2 m1 m2 h1 h2
   refine r.inj b1 b2 m1 m2 ?_ ?_
   ·simp only [FHeap.eff,FHeap.set] at h1;split at h1
    ·subst b1;simp [hb]
    ·exact h1
   ·simp only [FHeap.eff,FHeap.set] at h2;split at h2
    ·subst b2;simp [hb]
    ·exact h2
  ·intro b' m' hb';rw [hsize];exact r.dom b' m' hb'
  ·intro c hc;rw [hsize];exact r.imm c hc
  ·intro c hc;rw [hsize];exact r.kept c hc
  ·intro g cs hg
   obtain ⟨h1,h2⟩:=r.glob g cs hg
   exact ⟨h1,VAt.mono (fun _ h=>h) hIw cs (fun _ _ h=>h) (hIw g h1) h2⟩
theorem stepped_kill_new (r:HRel G I K ρ h w) (hh:h n = none) (hρ:ρ n = none) (b:Nat) {ob:Obj} {o:AObj} {m:Pl}
 (hw:w'.heap = w.heap.push ob) (ht:w'.tape = w.tape) (hos:w'.os = w.os) (hout:w'.output = w.output)
 (hm:m.blk = w.heap.size) (ho:ORel G I w' (ρ.set n m) m o):Stepped G I K ρ w I (ρ.set n m) (h.eff n (.kill b o)) w':=by
 have r':HRel G I K ρ (h.set b none) w:=r.fewer (by
  intro b' o' hb'
  simp only [FHeap.set] at hb'
  split at hb'
  ·cases hb'
  ·exact hb')
 have:=stepped_new (h:=h.set b none) (n:=n) (o:=o) r' (by simp only [FHeap.set];split<;>simp_all) hρ hw ht hos hout hm ho
 exact this
theorem stepped_kill_same (r:HRel G I K ρ h w) (hh:h n = none) (hρ:ρ n = none) {b:Nat} {o0 o:AObj} {mb m:Pl} (hb:h b = some o0) (hρb:ρ b = some mb)
 (hm:m.blk = mb.blk) (hsize:w'.heap.size = w.heap.size) (hw:∀ c,c ≠ mb.blk → w'.heap[c]? = w.heap[c]?) (ht:w'.tape = w.tape) (hos:w'.os = w.os) (hout:w'.output = w.output)
 (ho:ORel G I w' (ρ.set n m) m o):Stepped G I K ρ w I (ρ.set n m) (h.eff n (.kill b o)) w':=by
 obtain ⟨m',hm',hnI,hnK,_⟩:=r.live b o0 hb
 obtain rfl:mb = m':=Option.some.inj (hρb.symm.trans hm')
 have hset:=PMap.set_old (m:=m) hρ
 have hIw:∀ c,I c → w'.heap[c]? = w.heap[c]?:=fun c hc=>hw c (fun e=>hnI (e ▸ hc))
 have hbn:b ≠ n:=fun e=>by subst e;simp [hh] at hb
 have hlt:=r.dom b mb hρb
 refine ⟨fun _ h=>h,hset,⟨hos,ht,hout,by omega,?_⟩,?_⟩
 ·rintro c (hc|hc)
  ·exact hIw c hc
  ·exact hw c (fun e=>hnK (e ▸ hc))
 ·refine ⟨?_,?_,?_,?_,?_,r.apart,?_⟩
  ·intro b' o' hb'
   simp only [FHeap.eff,FHeap.set] at hb'
   split at hb'
   ·rename_i he
    cases hb'
    subst he
    exact ⟨m,by simp [PMap.set],by rw [hm];exact hnI,by rw [hm];exact hnK,ho⟩
   ·rename_i hne
    split at hb'
    ·cases hb'
    ·rename_i hne2
     obtain ⟨m',h1,h2,h3,h4⟩:=r.live b' o' hb'
     refine ⟨m',hset b' m' h1,h2,h3,ORel.mono o' (fun _ h=>h) hIw hset (hw _ ?_) h4⟩
     intro e
     exact hne2 (r.inj b' b m' mb (by simp [hb']) (by simp [hb]) h1 hρb e)
  ·intro b1 b2 m1 m2 hb1 hb2 h1 h2 he
   simp only [FHeap.eff,FHeap.set,PMap.set] at hb1 hb2 h1 h2
   by_cases e1:b1 = n<;>by_cases e2:b2 = n
   ·omega
   ·rw [if_pos e1] at h1;rw [if_neg e2] at h2;rw [if_neg e2] at hb2
    cases h1
    split at hb2
    ·cases hb2
    ·rename_i hne
     exact absurd (r.inj b2 b m2 mb hb2 (by simp [hb]) h2 hρb (by omega)) hne
   ·rw [if_neg e1] at h1;rw [if_pos e2] at h2;rw [if_neg e1] at hb1
    cases h2
    split at hb1
    ·cases hb1
    ·rename_i hne
     exact absurd (r.inj b1 b m1 mb hb1 (by simp [hb]) h1 hρb (by omega)) hne
   ·rw [if_neg e1] at h1;rw [if_neg e2] at h2;rw [if_neg e1] at hb1;rw [if_neg e2] at hb2
    split at hb1
    ·cases hb1
    ·split at hb2
     ·cases hb2
     ·exact r.inj b1 b2 m1 m2 hb1 hb2 h1 h2 he
  ·intro b' m' hb'
   rw [hsize]
   simp only [PMap.set] at hb'
   split at hb'
   ·cases hb';omega
   ·exact r.dom b' m' hb'
  ·intro c hc;rw [hsize];exact r.imm c hc
  ·intro c hc;rw [hsize];exact r.kept c hc
  ·intro g cs hg
   obtain ⟨h1,h2⟩:=r.glob g cs hg
   exact ⟨h1,VAt.mono (fun _ h=>h) hIw cs (fun _ _ h=>h) (hIw g h1) h2⟩
end
end Go.Ax
/- AxVal: lists of cells: splitting, reading, replacing. -/
namespace Go.Ax
section
variable {I I':Nat → Prop} {w w':World} {ρ ρ':PMap}
theorem VRels.length:∀ {vs:List AV} {cs:List Value},VRels I w ρ vs cs → vs.length = cs.length
 | [],cs,h=>by simp [VRels] at h;simp [h]
 | v :: vs,cs,h=>by
  simp only [VRels] at h
  obtain ⟨c,cs',rfl,_,h⟩:=h
  simp [VRels.length h]
theorem VRels.append:∀ {as bs:List AV} {xs ys:List Value},VRels I w ρ as xs → VRels I w ρ bs ys → VRels I w ρ (as ++ bs) (xs ++ ys)
 | [],bs,xs,ys,h,k=>by simp [VRels] at h;simpa [h] using k
 | v :: as,bs,xs,ys,h,k=>by
  simp only [VRels,List.cons_append] at h ⊢
  obtain ⟨c,cs',rfl,h1,h2⟩:=h
  exact ⟨c,cs' ++ ys,rfl,h1,VRels.append h2 k⟩
theorem VRels.get:∀ {vs:List AV} {cs:List Value} (i:Nat) {v:AV},VRels I w ρ vs cs → vs[i]? = some v → ∃ c,cs[i]? = some c ∧ VRel I w ρ v c
 | [],cs,i,v,h,hv=>by simp at hv
 | x :: vs,cs,i,v,h,hv=>by
  simp only [VRels] at h
  obtain ⟨c,cs',rfl,h1,h2⟩:=h
  cases i with
  | zero=>simp at hv;subst hv;exact ⟨c,by simp,h1⟩
  | succ i=>simp at hv;simpa using VRels.get i h2 hv
theorem VRels.drop:∀ {vs:List AV} {cs:List Value} (i:Nat),VRels I w ρ vs cs → VRels I w ρ (vs.drop i) (cs.drop i)
 | vs,cs,0,h=>by simpa using h
 | [],cs,i + 1,h=>by simp [VRels] at h ⊢;simp [h]
 | x :: vs,cs,i + 1,h=>by
  simp only [VRels] at h
  obtain ⟨c,cs',rfl,h1,h2⟩:=h
  simpa using VRels.drop i h2
theorem VRels.take:∀ {vs:List AV} {cs:List Value} (i:Nat),VRels I w ρ vs cs → VRels I w ρ (vs.take i) (cs.take i)
 | vs,cs,0,h=>by simp [VRels]
 | [],cs,i + 1,h=>by simp [VRels] at h ⊢;simp [h]
 | x :: vs,cs,i + 1,h=>by
  simp only [VRels] at h
  obtain ⟨c,cs',rfl,h1,h2⟩:=h
  simp only [List.take_succ_cons,VRels]
  exact ⟨c,cs'.take i,rfl,h1,VRels.take i h2⟩
theorem VRels.set:∀ {vs:List AV} {cs:List Value} (i:Nat) {v:AV} {c:Value},VRels I w ρ vs cs → VRel I w ρ v c → VRels I w ρ (vs.set i v) (cs.set i c)
 | [],cs,i,v,c,h,hv=>by simp [VRels] at h ⊢;simp [h]
 | x :: vs,cs,i,v,c,h,hv=>by
  simp only [VRels] at h
  obtain ⟨c',cs',rfl,h1,h2⟩:=h
  cases i with
  | zero=>simp only [List.set_cons_zero,VRels];exact ⟨c,cs',rfl,hv,h2⟩
  | succ i=>simp only [List.set_cons_succ,VRels];exact ⟨c',cs'.set i c,rfl,h1,VRels.set i h2 hv⟩
def CellsAt (w:World) (cs:List Value) (b off:Nat):Prop:=∀ j v,cs[j]? = some v → w.cell? ⟨b,off + j,none⟩ = some v
theorem VAt.of_cells:∀ {vs:List AV} {cs:List Value} {b off:Nat},CellsAt w cs b off → VRels I w ρ vs cs → VAt I w ρ vs b off
 | [],cs,b,off,_,_=>by simp [VAt]
 | v :: vs,cs,b,off,hc,h=>by
  simp only [VRels,VAt] at h ⊢
  obtain ⟨c,cs',rfl,h1,h2⟩:=h
  refine ⟨⟨c,by simpa using hc 0 c (by simp),h1⟩,VAt.of_cells (fun j v hv=>?_) h2⟩
  have:=hc (j + 1) v (by simpa using hv)
  rw [show off + 1 + j = off + (j + 1) by omega];exact this
theorem VAt.cells:∀ {vs:List AV} {b off:Nat},VAt I w ρ vs b off → ∃ cs,CellsAt w cs b off ∧ VRels I w ρ vs cs
 | [],b,off,_=>⟨[],fun j v hv=>by simp at hv,by simp [VRels]⟩
 | v :: vs,b,off,h=>by
  simp only [VAt] at h
  obtain ⟨⟨c,hc,h1⟩,h2⟩:=h
  obtain ⟨cs,k1,k2⟩:=VAt.cells h2
  refine ⟨c :: cs,fun j v hv=>?_,by simp only [VRels];exact ⟨c,cs,rfl,h1,k2⟩⟩
  cases j with
  | zero=>simp at hv;subst hv;simpa using hc
  | succ j=>
   have:=k1 j v (by simpa using hv)
   rw [show off + (j + 1) = off + 1 + j by omega];exact this
theorem VAt.append:∀ {as bs:List AV} {b off:Nat},VAt I w ρ (as ++ bs) b off ↔ VAt I w ρ as b off ∧ VAt I w ρ bs b (off + as.length)
 | [],bs,b,off=>by simp [VAt]
 | v :: as,bs,b,off=>by
  simp only [List.cons_append,VAt,List.length_cons]
  rw [VAt.append,and_assoc,show off + 1 + as.length = off + (as.length + 1) by omega]
theorem VAt.drop {vs:List AV} {b off:Nat} (i:Nat) (hi:i ≤ vs.length) (h:VAt I w ρ vs b off):VAt I w ρ (vs.drop i) b (off + i):=by
 rw [← List.take_append_drop i vs,VAt.append] at h
 simpa [Nat.min_eq_left hi] using h.2
theorem VAt.take {vs:List AV} {b off:Nat} (i:Nat) (h:VAt I w ρ vs b off):VAt I w ρ (vs.take i) b off:=by
 rw [← List.take_append_drop i vs,VAt.append] at h
 exact h.1
theorem VRows.iff {k:Nat}:∀ {rs:List (List AV)} {b off:Nat},VRows I w k ρ rs b off ↔ (∀ r ∈ rs,r.length = k) ∧ VAt I w ρ rs.flatten b off
 | [],b,off=>by simp [VRows,VAt]
 | r :: rs,b,off=>by
  simp only [VRows,List.flatten_cons,VAt.append,List.mem_cons,forall_eq_or_imp]
  rw [VRows.iff]
  constructor
  ·rintro ⟨h0,h1,h2,h3⟩;exact ⟨⟨h0,h2⟩,h1,by rw [h0];exact h3⟩
  ·rintro ⟨⟨h0,h2⟩,h1,h3⟩;exact ⟨h0,h1,h2,by rw [h0] at h3;exact h3⟩
theorem flatten_length_of {k:Nat}:∀ {rs:List (List AV)},(∀ r ∈ rs,r.length = k) → rs.flatten.length = rs.length * k
 | [],_=>by simp
 | r :: rs,h=>by
  simp only [List.flatten_cons,List.length_append,List.length_cons]
  rw [flatten_length_of (fun r hr=>h r (by simp [hr])),h r (by simp),Nat.succ_mul,Nat.add_comm]
theorem VRows.get {k:Nat}:∀ {rs:List (List AV)} {b off:Nat} (i:Nat) {r:List AV},VRows I w k ρ rs b off → rs[i]? = some r → r.length = k ∧ VAt I w ρ r b (off + i * k)
 | [],b,off,i,r,h,hr=>by simp at hr
 | x :: rs,b,off,i,r,h,hr=>by
  simp only [VRows] at h
  obtain ⟨h0,h1,h2⟩:=h
  cases i with
  | zero=>simp at hr;subst hr;exact ⟨h0,by simpa using h1⟩
  | succ i=>
   have:=VRows.get i h2 (by simpa using hr)
   rw [show off + (i + 1) * k = off + k + i * k by rw [Nat.succ_mul];omega]
   exact this
theorem VRows.append {k:Nat}:∀ {as bs:List (List AV)} {b off:Nat},VRows I w k ρ (as ++ bs) b off ↔ VRows I w k ρ as b off ∧ VRows I w k ρ bs b (off + as.length * k)
 | [],bs,b,off=>by simp [VRows]
 | v :: as,bs,b,off=>by
  simp only [List.cons_append,VRows,List.length_cons]
  rw [VRows.append,show off + k + as.length * k = off + (as.length + 1) * k by rw [Nat.succ_mul];omega]
  simp only [and_assoc]
theorem VRows.drop {k:Nat} {rs:List (List AV)} {b off:Nat} (i:Nat) (hi:i ≤ rs.length) (h:VRows I w k ρ rs b off):VRows I w k ρ (rs.drop i) b (off + i * k):=by
 rw [← List.take_append_drop i rs,VRows.append] at h
 simpa [Nat.min_eq_left hi] using h.2
theorem VRows.take {k:Nat} {rs:List (List AV)} {b off:Nat} (i:Nat) (h:VRows I w k ρ rs b off):VRows I w k ρ (rs.take i) b off:=by
 rw [← List.take_append_drop i rs,VRows.append] at h
 exact h.1
theorem VAt.mono_cells (hI:∀ c,I c → I' c) (hw:∀ c,I c → w'.heap[c]? = w.heap[c]?) (hρ:∀ b m,ρ b = some m → ρ' b = some m) :
 ∀ {vs:List AV} {b off:Nat},(∀ j,j < vs.length → w'.cell? ⟨b,off + j,none⟩ = w.cell? ⟨b,off + j,none⟩) → VAt I w ρ vs b off → VAt I' w' ρ' vs b off
 | [],b,off,_,_=>by simp [VAt]
 | v :: vs,b,off,hc,h=>by
  simp only [VAt] at h ⊢
  obtain ⟨⟨c,hcc,h1⟩,h2⟩:=h
  refine ⟨⟨c,by rw [← hcc];simpa using hc 0 (by simp),VRel.mono hI hw v hρ h1⟩,VAt.mono_cells hI hw hρ (fun j hj=>?_) h2⟩
  rw [show off + 1 + j = off + (j + 1) by omega]
  exact hc (j + 1) (by simp;omega)
theorem VRows.mono_cells {k:Nat} (hI:∀ c,I c → I' c) (hw:∀ c,I c → w'.heap[c]? = w.heap[c]?) (hρ:∀ b m,ρ b = some m → ρ' b = some m)
 {rs:List (List AV)} {b off:Nat} (hc:∀ j,j < rs.length * k → w'.cell? ⟨b,off + j,none⟩ = w.cell? ⟨b,off + j,none⟩) (h:VRows I w k ρ rs b off):VRows I' w' k ρ' rs b off:=by
 rw [VRows.iff] at h ⊢
 exact ⟨h.1,VAt.mono_cells hI hw hρ (by rw [flatten_length_of h.1];exact hc) h.2⟩
theorem cell?_of_heap {b o:Nat} {arr:Array Value} {e:TypeId} {fz:Nat × Nat} (h:w.heap[b]? = some (.cells arr e fz)):w.cell? ⟨b,o,none⟩ = arr[o]?:=by
 simp [World.cell?,h]
theorem CellsAt.of_heap {b off:Nat} {arr:Array Value} {e:TypeId} {fz:Nat × Nat} {cs:List Value} (h:w.heap[b]? = some (.cells arr e fz))
 (hc:∀ j v,cs[j]? = some v → arr[off + j]? = some v):CellsAt w cs b off:=by
 intro j v hv
 rw [cell?_of_heap h];exact hc j v hv
theorem VRels.noRef_any {vs:List AV} {cs:List Value} (h:VRels I w noP vs cs):VRels I w ρ vs cs:=VRels.mono (fun _ h=>h) (fun _ _=>rfl) vs (fun _ _ h=>by simp [noP] at h) h
theorem VRel.noRef_any {v:AV} {c:Value} (h:VRel I w noP v c):VRel I w ρ v c:=VRel.mono (fun _ h=>h) (fun _ _=>rfl) v (fun _ _ h=>by simp [noP] at h) h
theorem VAt.noRef_any {vs:List AV} {b off:Nat} (h:VAt I w noP vs b off):VAt I w ρ vs b off:=VAt.mono (fun _ h=>h) (fun _ _=>rfl) vs (fun _ _ h=>by simp [noP] at h) rfl h
end
end Go.Ax
/- AxEnv: the tables of a program that the evaluator reads; frames; operands. -/
namespace Go.Ax
structure FInfo where
 code:Code
 ntmps:Nat
 results:List ResultVar
abbrev Heap:=List (Option AObj)
structure Env where
 P:Program
 und:TypeId → Option TypeDesc
 sz:TypeId → Nat
 bytes:TypeId → Nat
 zero:TypeId → Option (List AV)
 eqok:TypeId → Bool
 G:GTab (List AV)
 fn:FuncId → Option FInfo
 keep:FuncId → Nat → List Nat
 thaw:FuncId → Bool
 ro:FuncId → Bool
 ext:FuncId → Bool
abbrev yId:FuncId:=999999999
def aggDesc:TypeDesc → Bool
 | .struct _|.array _ _=>true
 | _=>false
structure EnvOk (E:Env):Prop where
 und:∀ t d,E.und t = some d → E.P.underlying t = some d ∧ ∃ i,E.P.info? t = some i ∧ i.size = E.sz t ∧ i.bytes = E.bytes t
 zero:∀ t cs,E.zero t = some cs → (∃ d,E.und t = some d) ∧ ∃ i z,E.P.info? t = some i ∧ i.zero = some z ∧ cs.length = E.sz t ∧
  ∀ I w,VRels I w noP cs z.cells.toList
 zshape:∀ t d i z,E.und t = some d → E.P.info? t = some i → i.zero = some z → (aggDesc d = true → ∃ a,z = .agg a) ∧ (aggDesc d = false → z.cells = #[z])
 eqok:∀ t,E.eqok t = true → E.P.eqGuardType E.P.depth t = false ∧ E.P.stoodInHeld t = false ∧ (∃ i,E.P.info? t = some i ∧ i.comparable = true) ∧
  ∀ fs,E.und t = some (.struct fs) → ∀ f ∈ fs.toList,f.name ≠ "_"
 fn:∀ f i,E.fn f = some i → ∃ fn,E.P.funcs[f]? = some fn ∧ fn.body = some i.code ∧ fn.ntmps = i.ntmps ∧ fn.results.toList = i.results ∧ (fn.name == "runtime.NumGoroutine") = false
 ext:∀ f,E.ext f = true → ∃ fn,E.P.funcs[f]? = some fn ∧ fn.body = none ∧ (fn.name == "runtime.NumGoroutine") = false ∧ Extern.findNext fn = none ∧ Extern.find fn = some Extern.BytealgIndexByte.indexByte
 mixed:E.P.follows .mixedOrders = true
 yid:E.fn yId = none
section
variable {E:Env} (ok:EnvOk E) {t:TypeId} {d:TypeDesc} (w:World)
include ok
theorem run_und (h:E.und t = some d):(underlying t).run E.P w = .ok d w:=run_underlying (ok.und t d h).1 w
theorem run_info (h:E.und t = some d):∃ i,(typeInfo t).run E.P w = .ok i w ∧ i.size = E.sz t ∧ i.bytes = E.bytes t:=by
 obtain ⟨_,i,hi,h1,h2⟩:=ok.und t d h
 exact ⟨i,by simp [typeInfo,hi],h1,h2⟩
theorem run_sz (h:E.und t = some d):(sizeOf t).run E.P w = .ok (E.sz t) w:=by
 obtain ⟨i,hi,h1,_⟩:=run_info ok w h
 simp [sizeOf,hi,h1]
theorem run_agg (h:E.und t = some d):(isAgg t).run E.P w = .ok (aggDesc d) w:=by
 unfold isAgg
 simp only [Sem.run_bind,run_und ok w h,Result.andThen_ok]
 cases d<;>rfl
theorem run_zero {cs:List AV} (h:E.zero t = some cs):∃ z,(zeroValue t).run E.P w = .ok z w ∧ cs.length = E.sz t ∧ ∀ I w',VRels I w' noP cs z.cells.toList:=by
 obtain ⟨_,i,z,hi,hz,h1,h2⟩:=ok.zero t cs h
 exact ⟨z,by simp [zeroValue,typeInfo,hi,hz],h1,h2⟩
end
/-! ### frames -/
abbrev Frm:=List (Nat × AV)
def getF:Frm → Nat → AV
 | [],_=>.junk
 | (s,v) :: r,t=>bif Nat.beq s t then v else getF r t
theorem nbeq (s t:Nat):Nat.beq s t = (s == t):=by
 by_cases h:s = t
 ·subst h;simp
 ·rw [beq_eq_false_iff_ne.2 h]
  cases hb:Nat.beq s t with
  | false=>rfl
  | true=>exact absurd (Nat.eq_of_beq_eq_true hb) h
def setF (F:Frm) (d:Option Nat) (v:AV):Frm:=
 match d with
 | some s=>(s,v) :: F
 | none=>F
def FRel (I:Nat → Prop) (w:World) (ρ:PMap) (N:Nat) (F:Frm) (tmps:Array Value):Prop:=
 tmps.size = N ∧ ∀ s,VRel I w ρ (getF F s) (tmps.getD s undef)
def constCell:Value → AV
 | .bool b=>.bool b
 | .int k n=>.int k n
 | .string s=>.str s.data.toList
 | .pointer a=>match a with|none=>.nilptr|some _=>.junk
 | .slice a l c=>match a,l,c with|none,0,0=>.nilslice|_,_,_=>.junk
 | .map r=>match r with|none=>.nilmap|some _=>.junk
 | .nilFunc=>.nilfunc
 | .nilIface=>.nilifc
 | .tuple vs=>match vs.toList with|[]=>.tuple []|_=>.junk
 | _=>.junk
def constV:Value → AV
 | .agg cs=>.agg (cs.toList.map constCell)
 | v=>constCell v
def opv (E:Env) (F:Frm):Operand → AV
 | .tmp t=>getF F t
 | .const v=>constV v
 | .global g=>match E.G g with|some cs=>.iptr cs|none=>.junk
 | .func f=>.func (.func f) [] []
section
variable {I:Nat → Prop} {w:World} {ρ:PMap}
theorem constCell_ok (v:Value):VRel I w ρ (constCell v) v:=by
 cases v with
 | pointer a=>cases a<;>simp [constCell,VRel]
 | slice a l c=>cases a<;>cases l<;>cases c<;>simp [constCell,VRel]
 | map a=>cases a<;>simp [constCell,VRel]
 | tuple vs=>
  simp only [constCell]
  split
  ·rename_i h;simp only [VRel];exact ⟨vs,rfl,by simp [VRels,h]⟩
  ·simp [VRel]
 | _=>simp [constCell,VRel]
theorem constCells_ok:∀ l:List Value,VRels I w ρ (l.map constCell) l
 | []=>by simp [VRels]
 | v :: l=>by simp only [List.map_cons,VRels];exact ⟨v,l,rfl,constCell_ok v,constCells_ok l⟩
theorem constV_ok (v:Value):VRel I w ρ (constV v) v:=by
 unfold constV
 split
 ·rename_i cs;simp only [VRel];exact ⟨cs,rfl,constCells_ok _⟩
 ·exact constCell_ok v
theorem opv_ok {E:Env} {K:Nat → Prop} {h:FHeap} {N:Nat} {F:Frm} {a:Act} (r:HRel E.G I K ρ h w) (hF:FRel I w ρ N F a.tmps) (x:Operand) :
 VRel I w ρ (opv E F x) (a.eval x):=by
 cases x with
 | tmp t=>exact hF.2 t
 | const v=>exact constV_ok v
 | global g=>
  simp only [opv,Act.eval]
  cases hg:E.G g with
  | none=>simp [VRel]
  | some cs=>
   obtain ⟨h1,h2⟩:=r.glob g cs hg
   simp only [VRel]
   exact ⟨g,0,rfl,h1,h2⟩
 | func f=>simp only [opv,Act.eval,VRel];exact ⟨#[],#[],rfl,by simp [VRels],by simp [VRels]⟩
theorem getF_setF (F:Frm) (d s:Nat) (v:AV):getF (setF F (some d) v) s = if d = s then v else getF F s:=by
 simp only [setF,getF,nbeq]
 by_cases h:d = s
 ·simp [h]
 ·simp [h,beq_eq_false_iff_ne.2 h]
theorem FRel.set {N:Nat} {F:Frm} {a:Act} {d:Option Nat} {v:AV} {c:Value} (hF:FRel I w ρ N F a.tmps) (hd:∀ s,d = some s → s < N) (hv:VRel I w ρ v c) :
 FRel I w ρ N (setF F d v) (a.put d c).tmps:=by
 cases d with
 | none=>exact hF
 | some d=>
  have hlt:=hd d rfl
  refine ⟨by simp [Act.put,hF.1],fun s=>?_⟩
  rw [getF_setF]
  simp only [Act.put,Array.getD_eq_getD_getElem?,Array.getElem?_setIfInBounds,hF.1]
  split
  ·subst s;simpa [hlt] using hv
  ·have:=hF.2 s;simpa [Array.getD_eq_getD_getElem?] using this
theorem FRel.mono {I':Nat → Prop} {w':World} {ρ':PMap} {N:Nat} {F:Frm} {t:Array Value} (hF:FRel I w ρ N F t)
 (hv:∀ (v:AV) (c:Value),VRel I w ρ v c → VRel I' w' ρ' v c):FRel I' w' ρ' N F t:=⟨hF.1,fun s=>hv _ _ (hF.2 s)⟩
end
def AV.cells:AV → List AV
 | .agg cs=>cs
 | v=>[v]
def AV.storable:AV → Bool
 | .junk|.agg _|.tuple _=>false
 | _=>true
section
variable {I:Nat → Prop} {w:World} {ρ:PMap}
theorem VRel.storable {v:AV} {c:Value} (h:VRel I w ρ v c) (hs:v.storable = true):c.oneCell' = true:=by
 cases v<;>simp [AV.storable] at hs<;>simp only [VRel] at h
 all_goals first
  | (subst h;rfl)
  | (obtain ⟨_,rfl,_⟩:=h;rfl)
  | (obtain ⟨_,_,rfl⟩:=h;rfl)
  | (obtain ⟨_,_,rfl,_⟩:=h;rfl)
  | (obtain ⟨_,_,_,rfl,_⟩:=h;rfl)
theorem VRel.cells {v:AV} {c:Value} (h:VRel I w ρ v c) (hj:v ≠ .junk):VRels I w ρ v.cells c.cells.toList:=by
 cases v
 case junk=>exact absurd rfl hj
 case agg cs=>
  simp only [VRel] at h
  obtain ⟨cs',rfl,h⟩:=h
  exact h
 all_goals
  have hc:c.cells = #[c]:=by
   simp only [VRel] at h
   first
    | (subst h;rfl)
    | (obtain ⟨_,rfl,_⟩:=h;rfl)
    | (obtain ⟨_,_,rfl⟩:=h;rfl)
    | (obtain ⟨_,_,rfl,_⟩:=h;rfl)
    | (obtain ⟨_,_,_,rfl,_⟩:=h;rfl)
  rw [hc]
  simp only [AV.cells,VRels]
  exact ⟨c,[],rfl,h,rfl⟩
theorem VRels.storable:∀ {vs:List AV} {cs:List Value},VRels I w ρ vs cs → vs.all AV.storable = true → ∀ c ∈ cs,c.oneCell' = true
 | [],cs,h,_=>by simp [VRels] at h;simp [h]
 | v :: vs,cs,h,hs=>by
  simp only [VRels] at h
  obtain ⟨c,cs',rfl,h1,h2⟩:=h
  simp only [List.all_cons,Bool.and_eq_true] at hs
  intro x hx
  simp only [List.mem_cons] at hx
  rcases hx with rfl|hx
  ·exact VRel.storable h1 hs.1
  ·exact VRels.storable h2 hs.2 x hx
end
end Go.Ax
/- AxMem: loads, stores, new variables, rows and maps, addresses: what they do to abstract values, and that the model's operations do just that. -/
namespace Go.Ax
def Val (E:Env) (I K:Nat → Prop) (ρ:PMap) (h:FHeap) (n:Nat) (w:World) (s:Sem Value) (v:AV) (e:Eff):Prop:=
 ∃ c w' ρ',s.run E.P w = .ok c w' ∧ Stepped E.G I K ρ w I ρ' (h.eff n e) w' ∧ VRel I w' ρ' v c ∧ Moves ρ ρ' n e
def Done (E:Env) (I K:Nat → Prop) (ρ:PMap) (h:FHeap) (n:Nat) (w:World) (s:Sem Unit) (e:Eff):Prop:=
 ∃ w' ρ',s.run E.P w = .ok () w' ∧ Stepped E.G I K ρ w I ρ' (h.eff n e) w' ∧ Moves ρ ρ' n e
section
variable {E:Env} {I K:Nat → Prop} {ρ:PMap} {h:FHeap} {n:Nat} {w:World}
theorem Val.quiet (r:HRel E.G I K ρ h w) {s:Sem Value} {v:AV} {c:Value} {w':World} (hs:s.run E.P w = .ok c w') (hw:SameMem w w') (hv:VRel I w ρ v c) :
 Val E I K ρ h n w s v .none:=
 ⟨c,w',ρ,hs,Stepped.same r hw,VRel.mono (fun _ h=>h) (fun _ _=>by rw [hw.1]) v (fun _ _ h=>h) hv,Moves.same _ _ _⟩
theorem Val.here (r:HRel E.G I K ρ h w) {s:Sem Value} {v:AV} {c:Value} (hs:s.run E.P w = .ok c w) (hv:VRel I w ρ v c):Val E I K ρ h n w s v .none:=
 Val.quiet r hs ⟨rfl,rfl,rfl,rfl⟩ hv
/-! ### loads -/
def ofCells (E:Env) (t:TypeId) (cs:List AV):Option AV:=
 bif cs.length == E.sz t then
  match E.und t with
  | some d=>bif aggDesc d then some (.agg cs) else cs.head?
  | none=>none
 else none
def aload (E:Env) (h:FHeap) (t:TypeId):AV → Option AV
 | .ptr b i o=>match h b with
  | some (.row _ rows)=>match rows[i]? with
   | some r=>ofCells E t ((r.drop o).take (E.sz t))
   | none=>none
  | _=>none
 | .iptr cs=>ofCells E t (cs.take (E.sz t))
 | _=>none
theorem run_loadVar (ok:EnvOk E) {t:TypeId} {cs:List AV} {v:AV} {b off:Nat} {ρ:PMap} (hv:ofCells E t cs = some v) (hc:VAt I w ρ cs b off) :
 ∃ c,(loadVar t ⟨b,off,none⟩).run E.P w = .ok c w ∧ VRel I w ρ v c:=by
 unfold ofCells at hv
 rw [cond_eq_ite] at hv
 split at hv
 case isFalse=>cases hv
 rename_i hl
 have hl:cs.length = E.sz t:=by simpa using hl
 cases hd:E.und t with
 | none=>simp [hd] at hv
 | some d=>
  simp only [hd] at hv
  obtain ⟨cv,h1,h2⟩:=VAt.cells hc
  have hlen:cv.length = E.sz t:=by rw [← hl];exact (VRels.length h2).symm
  have hadd:∀ j:Nat,(⟨b,off,none⟩:Addr).add j = ⟨b,off + j,none⟩:=by intro j;unfold Addr.add;split<;>simp_all
  unfold loadVar
  simp only [Sem.run_bind,run_agg ok w hd,Result.andThen_ok,Sem.run_ite]
  cases hag:aggDesc d with
  | true=>
   simp only [hag,cond_true,Option.some.injEq] at hv
   subst hv
   have:=run_loadCells_list (P:=E.P) w ⟨b,off,none⟩ cv (fun j v hj=>by rw [hadd];exact h1 j v hj)
   rw [hlen] at this
   refine ⟨.agg cv.toArray,?_,by simp only [VRel];exact ⟨cv.toArray,rfl,by simpa using h2⟩⟩
   simp [run_sz ok w hd,this]
  | false=>
   simp only [hag,cond_false] at hv
   cases cs with
   | nil=>simp at hv
   | cons x cs=>
    simp at hv;subst hv
    simp only [VRels] at h2
    obtain ⟨c,cs',rfl,h3,_⟩:=h2
    have:=h1 0 c (by simp)
    refine ⟨c,?_,h3⟩
    simp at this
    simp [this]
theorem aload_ok (ok:EnvOk E) (r:HRel E.G I K ρ h w) {t:TypeId} {p v:AV} {c:Value} (hl:aload E h t p = some v) (hp:VRel I w ρ p c) :
 Val E I K ρ h n w (Instr.loadAt t c) v .none:=by
 cases p with
 | ptr b i o=>
  simp only [aload] at hl
  cases hb:h b with
  | none=>simp [hb] at hl
  | some ob=>
   cases ob with
   | row k rows=>
    simp only [hb] at hl
    cases hr:rows[i]? with
    | none=>simp [hr] at hl
    | some rw'=>
     simp only [hr] at hl
     obtain ⟨m,hm,_,_,ho⟩:=r.live b _ hb
     obtain ⟨hk,hk0,_,hrows⟩:=ho
     obtain ⟨hlen,hat⟩:=VRows.get i hrows hr
     simp only [VRel] at hp
     obtain ⟨m',hm',rfl⟩:=hp
     obtain rfl:m = m':=Option.some.inj (hm.symm.trans hm')
     by_cases hsz:o ≤ rw'.length
     ·have hat':VAt I w ρ ((rw'.drop o).take (E.sz t)) m.blk (m.off + i * m.k + o):=by
       rw [hk];exact VAt.take _ (VAt.drop o hsz hat)
      obtain ⟨c,hc,hv⟩:=run_loadVar ok hl hat'
      exact Val.here r (by simp [Instr.loadAt,Instr.sureAddr,hc]) hv
     ·have:rw'.drop o = []:=List.drop_eq_nil_of_le (by omega)
      rw [this] at hl
      unfold ofCells at hl
      have hd:∀ d,E.und t = some d → True:=fun _ _=>trivial
      simp only [List.take_nil,List.length_nil] at hl
      rw [cond_eq_ite] at hl
      split at hl
      ·rename_i h0
       cases hd:E.und t with
       | none=>simp [hd] at hl
       | some d=>
        simp only [hd] at hl
        have h0:E.sz t = 0:=(show 0 = E.sz t by simpa using h0).symm
        cases hag:aggDesc d with
        | true=>
         simp [hag] at hl;subst hl
         refine Val.here (c:=.agg #[]) r ?_ (by simp only [VRel];exact ⟨#[],rfl,by simp [VRels]⟩)
         simp [Instr.loadAt,Instr.sureAddr,loadVar,run_agg ok w hd,hag,run_sz ok w hd,h0,loadCells,loadCellsFrom]
        | false=>simp [hag] at hl
      ·cases hl
   | map ks vs bs cl=>simp [hb] at hl
   | siter s pos=>simp [hb] at hl
   | uset ks=>simp [hb] at hl
   | miter ks vis arm=>simp [hb] at hl
   | yloop y Fy st=>simp [hb] at hl
 | iptr cs=>
  simp only [aload] at hl
  simp only [VRel] at hp
  obtain ⟨b,off,rfl,hI,hat⟩:=hp
  obtain ⟨c,hc,hv⟩:=run_loadVar ok hl (VAt.take _ hat)
  exact Val.here r (by simp [Instr.loadAt,Instr.sureAddr,hc]) (VRel.noRef_any hv)
 | _=>simp [aload] at hl
/-! ### stores -/
def splice (r:List AV) (o:Nat) (cs:List AV):List AV:=r.take o ++ cs ++ r.drop (o + cs.length)
def astore (E:Env) (h:FHeap) (t:TypeId) (p x:AV):Option Eff:=
 match p with
 | .ptr b i o=>match h b with
  | some (.row k rows)=>match rows[i]? with
   | some r=>bif x.cells.length == E.sz t && (E.und t).isSome && Nat.ble (o + x.cells.length) r.length && x.cells.all AV.storable
    then some (.set b (.row k (rows.set i (splice r o x.cells)))) else none
   | none=>none
  | _=>none
 | _=>none
theorem VRows.splice {k:Nat} {rows:List (List AV)} {blk off i o:Nat} {r cs:List AV} {w':World} (hIw:∀ c,I c → w'.heap[c]? = w.heap[c]?)
 (hrows:VRows I w k ρ rows blk off) (hr:rows[i]? = some r) (ho:o + cs.length ≤ k)
 (hother:∀ x,(x < off + i * k + o ∨ off + i * k + o + cs.length ≤ x) → w'.cell? ⟨blk,x,none⟩ = w.cell? ⟨blk,x,none⟩)
 (hnew:VAt I w' ρ cs blk (off + i * k + o)):VRows I w' k ρ (rows.set i (Ax.splice r o cs)) blk off:=by
 have hi:i < rows.length:=(List.getElem?_eq_some_iff.1 hr).1
 have hsplit:rows = rows.take i ++ r :: rows.drop (i + 1):=by
  conv=>lhs;rw [← List.take_append_drop i rows]
  congr 1
  rw [List.drop_eq_getElem_cons hi]
  congr 1
  exact (List.getElem?_eq_some_iff.1 hr).2
 have hset:rows.set i (Ax.splice r o cs) = rows.take i ++ Ax.splice r o cs :: rows.drop (i + 1):=by
  rw [List.set_eq_take_append_cons_drop,if_pos hi]
 rw [hset]
 rw [hsplit] at hrows
 rw [VRows.append] at hrows ⊢
 obtain ⟨h1,h2⟩:=hrows
 have hti:(rows.take i).length = i:=by simp;omega
 simp only [VRows,hti] at h2 ⊢
 obtain ⟨h3,h4,h5⟩:=h2
 have mono:=fun (vs:List AV) (b off:Nat) hc (hh:VAt I w ρ vs b off)=>VAt.mono_cells (I':=I) (w':=w') (ρ':=ρ) (fun _ h=>h) hIw (fun _ _ h=>h) hc hh
 refine ⟨?_,?_,?_,?_⟩
 ·refine VRows.mono_cells (fun _ h=>h) hIw (fun _ _ h=>h) (fun j hj=>hother _ (.inl ?_)) h1
  rw [hti] at hj;omega
 ·unfold Ax.splice;simp;omega
 ·unfold Ax.splice
  rw [VAt.append,VAt.append]
  have hto:(r.take o).length = o:=by simp;omega
  refine ⟨⟨?_,by rw [hto];exact hnew⟩,?_⟩
  ·exact mono _ _ _ (fun j hj=>hother _ (.inl (by rw [hto] at hj;omega))) (VAt.take o h4)
  ·have:=VAt.drop (o + cs.length) (by omega) h4
   rw [List.length_append,hto,show off + i * k + (o + cs.length) = off + i * k + o + cs.length by omega]
   rw [show off + i * k + (o + cs.length) = off + i * k + o + cs.length by omega] at this
   exact mono _ _ _ (fun j hj=>hother _ (.inr (by omega))) this
 ·refine VRows.mono_cells (fun _ h=>h) hIw (fun _ _ h=>h) (fun j hj=>hother _ (.inr (by omega))) h5
theorem written {w:World} {blk o:Nat} {arr:Array Value} {e:TypeId} (cv:List Value) (hb:w.heap[blk]? = some (.cells arr e (0,0))) (hfit:o + cv.length ≤ arr.size)
 (hone:∀ c ∈ cv,c.oneCell' = true) (P:Program) :
 ∃ w',(storeCells ⟨blk,o,none⟩ cv).run P w = .ok () w' ∧ (∃ arr',w'.heap[blk]? = some (.cells arr' e (0,0)) ∧ arr'.size = arr.size) ∧
  (∀ c,c ≠ blk → w'.heap[c]? = w.heap[c]?) ∧ w'.heap.size = w.heap.size ∧ w'.tape = w.tape ∧ w'.os = w.os ∧ w'.output = w.output ∧
  CellsAt w' cv blk o ∧ (∀ x,(x < o ∨ o + cv.length ≤ x) → w'.cell? ⟨blk,x,none⟩ = w.cell? ⟨blk,x,none⟩):=by
 refine ⟨_,run_storeCells_at (P:=P) blk o e cv 0 arr w hb (by omega) hone,?_⟩
 simp only [Nat.add_zero]
 generalize hnew:(arr.toList.take o ++ cv ++ arr.toList.drop (o + cv.length)).toArray = arr'
 have hsz:arr'.size = arr.size:=by subst hnew;simp;omega
 have hh:=setRow_heap w blk arr arr' e (0,0) hb
 have hget:∀ x,arr'[x]? = if x < o then arr[x]? else if x < o + cv.length then cv[x - o]? else arr[x]?:=by
  intro x
  subst hnew
  have hto:(arr.toList.take o).length = o:=by simp;omega
  have htake:(arr.toList.take o ++ cv).length = o + cv.length:=by simp;omega
  rw [List.getElem?_toArray]
  by_cases h1:x < o
  ·rw [List.append_assoc,List.getElem?_append_left (by rw [hto];omega)]
   simp [h1]
  ·by_cases h2:x < o + cv.length
   ·rw [List.getElem?_append_left (by rw [htake];omega),List.getElem?_append_right (by rw [hto];omega),hto]
    simp [h1,h2]
   ·rw [List.getElem?_append_right (by rw [htake];omega),htake]
    simp only [List.getElem?_drop,if_neg h1,if_neg h2]
    rw [show o + cv.length + (x - (o + cv.length)) = x by omega]
    simp
 refine ⟨⟨arr',hh,hsz⟩,fun c hc=>setRow_other w blk c arr' hc,setRow_size w blk arr',rfl,rfl,rfl,?_,?_⟩
 ·refine CellsAt.of_heap hh (fun j v hj=>?_)
  have hjl:j < cv.length:=(List.getElem?_eq_some_iff.1 hj).1
  rw [hget,if_neg (by omega),if_pos (by omega),show o + j - o = j by omega]
  exact hj
 ·intro x hx
  rw [cell?_of_heap hh,cell?_of_heap hb,hget]
  rcases hx with hx|hx
  ·rw [if_pos hx]
  ·rw [if_neg (by omega),if_neg (by omega)]
theorem astore_ok (ok:EnvOk E) (r:HRel E.G I K ρ h w) {t:TypeId} {p x:AV} {e:Eff} {c cx:Value} (hl:astore E h t p x = some e) (hp:VRel I w ρ p c) (hx:VRel I w ρ x cx) :
 Done E I K ρ h n w (Instr.storeAt t c cx) e:=by
 cases p with
 | ptr b i o=>
  simp only [astore] at hl
  cases hb:h b with
  | none=>simp [hb] at hl
  | some ob=>
   cases ob with
   | row k rows=>
    simp only [hb] at hl
    cases hr:rows[i]? with
    | none=>simp [hr] at hl
    | some rr=>
     simp only [hr] at hl
     rw [cond_eq_ite] at hl
     split at hl
     case isFalse=>cases hl
     rename_i hc
     simp only [Bool.and_eq_true,beq_iff_eq,Nat.ble_eq] at hc
     obtain ⟨⟨⟨hc1,hc2⟩,hc3⟩,hc4⟩:=hc
     cases hl
     obtain ⟨d,hd⟩:=Option.isSome_iff_exists.1 hc2
     obtain ⟨m,hm,hnI,_,ho⟩:=r.live b _ hb
     obtain ⟨hk,hk0,⟨arr,el,hblk,hroom,hfit⟩,hrows⟩:=ho
     obtain ⟨hlen,hat⟩:=VRows.get i hrows hr
     simp only [VRel] at hp
     obtain ⟨m',hm',rfl⟩:=hp
     obtain rfl:m = m':=Option.some.inj (hm.symm.trans hm')
     have hj:x ≠ .junk:=by rintro rfl;simp [AV.cells,AV.storable] at hc4
     have hcs:=VRel.cells hx hj
     have hlc:=VRels.length hcs
     have hi:i < rows.length:=(List.getElem?_eq_some_iff.1 hr).1
     have hik:i * k + k ≤ rows.length * k:=by
      rw [← Nat.succ_mul];exact Nat.mul_le_mul_right k hi
     obtain ⟨w',hrun,⟨arr',hb',hsz'⟩,hoth,hsz,ht,hos,hout,hnew,hcell⟩:=written (w:=w) (blk:=m.blk) (o:=m.off + i * k + o) cx.cells.toList hblk
      (by rw [← hlc];omega) (VRels.storable hcs hc4) E.P
     have hIw:∀ c,I c → w'.heap[c]? = w.heap[c]?:=fun c hc=>hoth c (fun e=>hnI (e ▸ hc))
     refine ⟨w',ρ,?_,?_,Moves.same _ _ _⟩
     ·simp only [Instr.storeAt,Instr.sureAddr,storeVar,Sem.run_bind,Sem.run_pure,Result.andThen_ok,run_sz ok w hd]
      have hszv:cx.cells.size = E.sz t:=by rw [← hc1,hlc];simp
      simp only [hszv,ne_eq,not_true_eq_false,if_false,hk]
      simpa using hrun
     ·refine stepped_set r hb hm hsz hoth ht hos hout ?_
      refine ⟨hk,hk0,⟨arr',el,hb',by omega,by simp only [List.length_set];omega⟩,?_⟩
      refine VRows.splice hIw hrows hr (by rw [hlen] at hc3;exact hc3) (fun x hx=>hcell x (by rw [← hlc];exact hx)) ?_
      exact VAt.of_cells hnew (VRels.mono (fun _ h=>h) hIw _ (fun _ _ h=>h) hcs)
   | map ks vs bs cl=>simp [hb] at hl
   | siter s pos=>simp [hb] at hl
   | uset ks=>simp [hb] at hl
   | miter ks vis arm=>simp [hb] at hl
   | yloop y Fy st=>simp [hb] at hl
 | _=>simp [astore] at hl
/-! ### new blocks -/
theorem newRow_ok (r:HRel E.G I K ρ h w) (hn:h n = none) (hρ:ρ n = none) {el:TypeId} {k:Nat} (hk:0 < k) {rows:List (List AV)} {cells:Array Value}
 (hlen:∀ x ∈ rows,x.length = k) (hv:VRels I w ρ rows.flatten cells.toList) {s:Sem Value} {v:AV} {mk:Addr → Value} {w0:World} (hw0:SameMem w w0)
 (hs:s.run E.P w = .ok (mk ⟨w.heap.size,0,none⟩) { w0 with heap:=w0.heap.push (.cells cells el) })
 (hmk:∀ w' ρ',ρ' n = some ⟨w.heap.size,0,k,cells.size⟩ → VRel I w' ρ' v (mk ⟨w.heap.size,0,none⟩)) :
 Val E I K ρ h n w s v (.new (.row k rows)):=by
 have hset:=PMap.set_old (m:=⟨w.heap.size,0,k,cells.size⟩) hρ
 have hold:∀ c,I c → ({ w0 with heap:=w0.heap.push (.cells cells el) }:World).heap[c]? = w.heap[c]?:=by
  intro c hc
  have:=r.imm c hc
  show (w0.heap.push _)[c]? = _
  rw [hw0.1,Array.getElem?_push,if_neg (by omega)]
 have hnew:({ w0 with heap:=w0.heap.push (.cells cells el) }:World).heap[w.heap.size]? = some (.cells cells el (0,0)):=by
  show (w0.heap.push _)[_]? = _
  rw [hw0.1];simp
 refine ⟨_,_,ρ.set n ⟨w.heap.size,0,k,cells.size⟩,hs,?_,hmk _ _ (by simp [PMap.set]),Moves.set _ _ _ rfl⟩
 refine stepped_new (ob:=.cells cells el) r hn hρ (by show w0.heap.push _ = _;rw [hw0.1]) hw0.2.1 hw0.2.2.1 hw0.2.2.2 rfl ?_
 refine ⟨rfl,hk,⟨cells,el,hnew,rfl,?_⟩,?_⟩
 ·have:=VRels.length hv
  rw [flatten_length_of hlen] at this
  simp at this;simp;omega
 ·rw [VRows.iff]
  refine ⟨hlen,VAt.of_cells (cs:=cells.toList) (CellsAt.of_heap hnew (fun j v hj=>by simpa using hj)) ?_⟩
  exact VRels.mono (fun _ h=>h) hold _ hset hv
theorem run_newRow (el:TypeId) (cells:Array Value) (w:World):(newRow el cells).run E.P w = .ok ⟨w.heap.size,0,none⟩ { w with heap:=w.heap.push (.cells cells el) }:=by
 simp [newRow]
def anew (E:Env) (n:Nat) (t:TypeId):Option (AV × Eff):=
 match E.zero t with
 | some z=>bif Nat.blt 0 z.length then some (.ptr n 0 0,.new (.row z.length [z])) else none
 | none=>none
theorem anew_ok (ok:EnvOk E) (r:HRel E.G I K ρ h w) (hn:h n = none) (hρ:ρ n = none) {t:TypeId} {v:AV} {e:Eff} (ha:anew E n t = some (v,e)) (old:Value) :
 Val E I K ρ h n w (Instr.alloc t true old) v e:=by
 unfold anew at ha
 cases hz:E.zero t with
 | none=>simp [hz] at ha
 | some z=>
  simp only [hz] at ha
  rw [cond_eq_ite] at ha
  split at ha
  case isFalse=>cases ha
  rename_i hpos
  cases ha
  obtain ⟨zv,hzv,hl,hrel⟩:=run_zero ok w hz
  refine newRow_ok (el:=t) (cells:=zv.cells) (mk:=fun a=>.pointer (some a)) r hn hρ (by simpa [Nat.blt_eq] using hpos) (by simp) (by simpa using VRels.noRef_any (hrel I w)) ⟨rfl,rfl,rfl,rfl⟩ ?_ ?_
  ·simp [Instr.alloc,hzv,newVar,run_newRow]
  ·intro w' ρ' h';simp only [VRel];exact ⟨_,h',by simp⟩
def abox (n:Nat) (x:AV):Option (AV × Eff):=
 match x with
 | .junk=>none
 | x=>bif Nat.blt 0 x.cells.length then some (.ptr n 0 0,.new (.row x.cells.length [x.cells])) else none
theorem abox_ok (r:HRel E.G I K ρ h w) (hn:h n = none) (hρ:ρ n = none) {t:TypeId} {x v:AV} {c:Value} {e:Eff} (ha:abox n x = some (v,e)) (hx:VRel I w ρ x c) :
 Val E I K ρ h n w (Instr.box t c) v e:=by
 have hj:x ≠ .junk:=by rintro rfl;simp [abox] at ha
 have ha':(bif Nat.blt 0 x.cells.length then some (AV.ptr n 0 0,Eff.new (.row x.cells.length [x.cells])) else none) = some (v,e):=by
  cases x<;>first|exact absurd rfl hj|exact ha
 rw [cond_eq_ite] at ha'
 split at ha'
 case isFalse=>cases ha'
 rename_i hpos
 cases ha'
 refine newRow_ok (el:=t) (cells:=c.cells) (mk:=fun a=>.pointer (some a)) r hn hρ (by simpa [Nat.blt_eq] using hpos) (by simp) (by simpa using VRel.cells hx hj) ⟨rfl,rfl,rfl,rfl⟩ ?_ ?_
 ·simp [Instr.box,newVar,run_newRow]
 ·intro w' ρ' h';simp only [VRel];exact ⟨_,h',by simp⟩
theorem amap_ok (r:HRel E.G I K ρ h w) (hn:h n = none) (hρ:ρ n = none) {s:Sem Value}
 (hs:s.run E.P w = .ok (.map (some w.heap.size)) { w with heap:=w.heap.push (.map #[] 0) }):Val E I K ρ h n w s (.map n) (.new (.map [] [] [] 0)):=by
 refine ⟨_,_,ρ.set n ⟨w.heap.size,0,0,0⟩,hs,?_,by simp only [VRel];exact ⟨_,by simp [PMap.set];rfl,rfl⟩,Moves.set _ _ _ rfl⟩
 refine stepped_new (ob:=.map #[] 0) r hn hρ rfl rfl rfl rfl rfl ?_
 exact ⟨#[],by simp,by simp [VRels],by simp [VRels],rfl⟩
end
end Go.Ax
/- AxAdr: addresses of fields and elements, parts of values, slices of slices and strings. -/
namespace Go.Ax
section
variable {E:Env} {I K:Nat → Prop} {ρ:PMap} {h:FHeap} {n:Nat} {w:World}
theorem VAt.drop' {vs:List AV} {b off:Nat} (i:Nat) (h:VAt I w ρ vs b off):VAt I w ρ (vs.drop i) b (off + i):=by
 by_cases hi:i ≤ vs.length
 ·exact VAt.drop i hi h
 ·rw [List.drop_eq_nil_of_le (by omega)];simp [VAt]
theorem addr_add (b o j:Nat):(⟨b,o,none⟩:Addr).add j = ⟨b,o + j,none⟩:=by unfold Addr.add;split<;>simp_all
def afieldAddr (E:Env) (s:TypeId) (p:AV) (f:Nat):Option AV:=
 match E.und s with
 | some (.struct fs)=>match fs[f]? with
  | some fd=>bif !(E.sz fd.type == 0) && (E.und fd.type).isSome then
   match p with
   | .ptr b i o=>some (.ptr b i (o + fd.offset))
   | .iptr cs=>some (.iptr (cs.drop fd.offset))
   | _=>none
   else none
  | none=>none
 | _=>none
theorem afieldAddr_ok (ok:EnvOk E) (r:HRel E.G I K ρ h w) {s:TypeId} {p v:AV} {f:Nat} {c:Value} (hl:afieldAddr E s p f = some v) (hp:VRel I w ρ p c) :
 Val E I K ρ h n w (Instr.fieldAt s c f) v .none:=by
 unfold afieldAddr at hl
 cases hu:E.und s with
 | none=>simp [hu] at hl
 | some d=>
  cases d
  case struct fs=>
   simp only [hu] at hl
   cases hf:fs[f]? with
   | none=>simp [hf] at hl
   | some fd=>
    simp only [hf] at hl
    rw [cond_eq_ite] at hl
    split at hl
    case isFalse=>cases hl
    rename_i hc
    simp only [Bool.and_eq_true,Bool.not_eq_true',beq_eq_false_iff_ne] at hc
    obtain ⟨hz,hs⟩:=hc
    obtain ⟨fd',hfd⟩:=Option.isSome_iff_exists.1 hs
    have hplace:∀ b o:Nat,(fieldPlace ⟨b,o,none⟩ fd).run E.P w = .ok ⟨b,o + fd.offset,none⟩ w:=by
     intro b o
     simp [fieldPlace,run_sz ok w hfd,hz,addr_add]
    cases p with
    | ptr b i o=>
     simp only [Option.some.injEq] at hl
     subst hl
     simp only [VRel] at hp
     obtain ⟨m,hm,rfl⟩:=hp
     refine Val.here (c:=.pointer (some ⟨m.blk,m.off + i * m.k + o + fd.offset,none⟩)) r ?_ (by simp only [VRel];exact ⟨m,hm,by rw [Nat.add_assoc _ o]⟩)
     simp [Instr.fieldAt,run_und ok w hu,hf,Instr.sureAddr,hplace]
    | iptr cs=>
     simp only [Option.some.injEq] at hl
     subst hl
     simp only [VRel] at hp
     obtain ⟨b,off,rfl,hI,hat⟩:=hp
     refine Val.here (c:=.pointer (some ⟨b,off + fd.offset,none⟩)) r ?_ (by simp only [VRel];exact ⟨b,_,rfl,hI,VAt.drop' _ hat⟩)
     simp [Instr.fieldAt,run_und ok w hu,hf,Instr.sureAddr,hplace]
    | _=>simp at hl
  all_goals simp [hu] at hl
theorem part_run (ok:EnvOk E) {t:TypeId} {cs:List AV} {cv:Array Value} {off:Nat} {v:AV} (hv:ofCells E t ((cs.drop off).take (E.sz t)) = some v)
 (hc:VRels I w ρ cs cv.toList):∃ c,(part t cv off).run E.P w = .ok c w ∧ VRel I w ρ v c:=by
 unfold ofCells at hv
 rw [cond_eq_ite] at hv
 split at hv
 case isFalse=>cases hv
 rename_i hl
 have hl:((cs.drop off).take (E.sz t)).length = E.sz t:=by simpa using hl
 cases hd:E.und t with
 | none=>simp [hd] at hv
 | some d=>
  simp only [hd] at hv
  unfold part
  cases hag:aggDesc d with
  | true=>
   simp only [hag,cond_true,Option.some.injEq] at hv
   subst hv
   refine ⟨.agg (cv.extract off (off + E.sz t)),by simp [run_agg ok w hd,hag,run_sz ok w hd],?_⟩
   simp only [VRel]
   refine ⟨_,rfl,?_⟩
   have:=VRels.take (E.sz t) (VRels.drop off hc)
   simpa [Array.toList_extract,List.extract_eq_take_drop,List.extract] using this
  | false=>
   simp only [hag,cond_false] at hv
   have hk:=VRels.take (E.sz t) (VRels.drop off hc)
   have h0:((cs.drop off).take (E.sz t))[0]? = some v:=by rw [← List.head?_eq_getElem?];exact hv
   obtain ⟨c,hcc,hvv⟩:=VRels.get 0 hk h0
   have:cv[off]? = some c:=by
    rw [List.getElem?_take] at hcc
    split at hcc
    ·simpa [List.getElem?_drop] using hcc
    ·cases hcc
   exact ⟨c,by simp [run_agg ok w hd,hag,this],hvv⟩
theorem part_ok (ok:EnvOk E) (r:HRel E.G I K ρ h w) {t:TypeId} {cs:List AV} {cv:Array Value} {off:Nat} {v:AV} (hv:ofCells E t ((cs.drop off).take (E.sz t)) = some v)
 (hc:VRels I w ρ cs cv.toList):Val E I K ρ h n w (part t cv off) v .none:=by
 obtain ⟨c,h1,h2⟩:=part_run ok hv hc
 exact Val.here r h1 h2
def afield (E:Env) (t:TypeId) (x:AV) (f:Nat):Option AV:=
 match E.und t,x with
 | some (.struct fs),.agg cs=>match fs[f]? with
  | some fd=>ofCells E fd.type ((cs.drop fd.offset).take (E.sz fd.type))
  | none=>none
 | _,_=>none
theorem afield_ok (ok:EnvOk E) (r:HRel E.G I K ρ h w) {t:TypeId} {x v:AV} {f:Nat} {c:Value} (hl:afield E t x f = some v) (hx:VRel I w ρ x c) :
 Val E I K ρ h n w (Instr.field t c f) v .none:=by
 unfold afield at hl
 split at hl
 ·rename_i fs cs hu
  cases hf:fs[f]? with
  | none=>simp [hf] at hl
  | some fd=>
   simp only [hf] at hl
   simp only [VRel] at hx
   obtain ⟨cv,rfl,hc⟩:=hx
   have hrun:(Instr.field t (.agg cv) f).run E.P w = (part fd.type cv fd.offset).run E.P w:=by
    simp [Instr.field,run_und ok w hu,hf,asAgg]
   obtain ⟨c,w',ρ',h1,h2⟩:=part_ok ok (n:=n) r hl hc
   exact ⟨c,w',ρ',by rw [hrun,h1],h2⟩
 ·cases hl
def aidx (x:AV) (len:Nat):Option Nat:=
 match x with
 | .int _ i=>bif decide (0 ≤ i) && decide (i < (len:Int)) then some i.toNat else none
 | _=>none
theorem aidx_ok {x:AV} {len j:Nat} {c:Value} (hi:aidx x len = some j) (hx:VRel I w ρ x c):∃ k i,c = .int k i ∧ x = .int k i ∧ 0 ≤ i ∧ i < len ∧ i.toNat = j ∧ j < len:=by
 unfold aidx at hi
 split at hi
 ·rename_i k i
  rw [cond_eq_ite] at hi
  split at hi
  ·rename_i hc
   simp only [Bool.and_eq_true,decide_eq_true_eq] at hc
   simp only [VRel] at hx
   cases hi
   exact ⟨k,i,hx,rfl,hc.1,hc.2,rfl,by omega⟩
  ·cases hi
 ·cases hi
def aindexAddr (E:Env) (h:FHeap) (t:TypeId) (p ix:AV):Option AV:=
 match E.und t with
 | some (.array len elem)=>match aidx ix len with
  | some j=>bif (E.und elem).isSome then match p with
   | .ptr b i o=>some (.ptr b i (o + j * E.sz elem))
   | .iptr cs=>some (.iptr (cs.drop (j * E.sz elem)))
   | _=>none
   else none
  | none=>none
 | some (.slice elem)=>bif (E.und elem).isSome then match p with
  | .slice b off len _=>match aidx ix len with
   | some j=>match h b with
    | some (.row k _)=>bif k == E.sz elem then some (.ptr b (off + j) 0) else none
    | _=>none
   | none=>none
  | .islice rows _=>match aidx ix rows.length with
   | some j=>match rows[j]? with
    | some r=>bif r.length == E.sz elem then some (.iptr r) else none
    | none=>none
   | none=>none
  | _=>none
  else none
 | _=>none
theorem aindexAddr_ok (ok:EnvOk E) (r:HRel E.G I K ρ h w) {t:TypeId} {p ix v:AV} {c ci:Value} (hl:aindexAddr E h t p ix = some v) (hp:VRel I w ρ p c) (hx:VRel I w ρ ix ci) :
 Val E I K ρ h n w (Instr.indexAt t c ci) v .none:=by
 unfold aindexAddr at hl
 split at hl
 ·rename_i len elem hu
  cases hi:aidx ix len with
  | none=>simp [hi] at hl
  | some j=>
   simp only [hi] at hl
   obtain ⟨k,i,rfl,_,h0,h1,hj,hjl⟩:=aidx_ok hi hx
   rw [cond_eq_ite] at hl
   split at hl
   case isFalse=>cases hl
   rename_i he
   obtain ⟨de,hde⟩:=Option.isSome_iff_exists.1 he
   cases p with
   | ptr b i' o=>
    simp only [Option.some.injEq] at hl
    subst hl
    simp only [VRel] at hp
    obtain ⟨m,hm,rfl⟩:=hp
    refine Val.here (c:=.pointer (some ⟨m.blk,m.off + i' * m.k + o + j * E.sz elem,none⟩)) r ?_ (by simp only [VRel];exact ⟨m,hm,by rw [Nat.add_assoc _ o]⟩)
    simp [Instr.indexAt,asIntOf,run_und ok w hu,Instr.sureAddr,h0,h1,run_sz ok w hde,hj,addr_add]
   | iptr cs=>
    simp only [Option.some.injEq] at hl
    subst hl
    simp only [VRel] at hp
    obtain ⟨b,off,rfl,hI,hat⟩:=hp
    refine Val.here (c:=.pointer (some ⟨b,off + j * E.sz elem,none⟩)) r ?_ (by simp only [VRel];exact ⟨b,_,rfl,hI,VAt.drop' _ hat⟩)
    simp [Instr.indexAt,asIntOf,run_und ok w hu,Instr.sureAddr,h0,h1,run_sz ok w hde,hj,addr_add]
   | _=>simp at hl
 ·rename_i elem hu
  rw [cond_eq_ite] at hl
  split at hl
  case isFalse=>cases hl
  rename_i he
  obtain ⟨de,hde⟩:=Option.isSome_iff_exists.1 he
  cases p with
  | slice b off len cap=>
   simp only at hl
   cases hi:aidx ix len with
   | none=>simp [hi] at hl
   | some j=>
    simp only [hi] at hl
    obtain ⟨k,i,rfl,_,h0,h1,hj,hjl⟩:=aidx_ok hi hx
    cases hb:h b with
    | none=>simp [hb] at hl
    | some o=>
     cases o with
     | row kk rows=>
      simp only [hb] at hl
      rw [cond_eq_ite] at hl
      split at hl
      case isFalse=>cases hl
      rename_i hk
      have hk:kk = E.sz elem:=by simpa using hk
      cases hl
      obtain ⟨m,hm,_,_,ho⟩:=r.live b _ hb
      simp only [VRel] at hp
      obtain ⟨a,cc,rfl,hle,_,hor⟩:=hp
      rcases hor with hz|⟨m',hm',rfl,_⟩
      ·omega
      obtain rfl:m = m':=Option.some.inj (hm.symm.trans hm')
      have hmk:m.k = E.sz elem:=by rw [ho.1,hk]
      refine Val.here (c:=.pointer (some ⟨m.blk,m.off + off * m.k + j * m.k,none⟩)) r ?_ (by simp only [VRel];exact ⟨m,hm,by rw [Nat.add_mul];simp;omega⟩)
      simp [Instr.indexAt,asIntOf,run_und ok w hu,h0,h1,run_sz ok w hde,hj,addr_add,hmk]
     | map ks vs bs cl=>simp [hb] at hl
     | siter s pos=>simp [hb] at hl
     | uset ks=>simp [hb] at hl
     | miter ks vis arm=>simp [hb] at hl
     | yloop y Fy st=>simp [hb] at hl
  | islice rows cap=>
   simp only at hl
   cases hi:aidx ix rows.length with
   | none=>simp [hi] at hl
   | some j=>
    simp only [hi] at hl
    obtain ⟨k,i,rfl,_,h0,h1,hj,hjl⟩:=aidx_ok hi hx
    cases hr:rows[j]? with
    | none=>simp [hr] at hl
    | some rr=>
     simp only [hr] at hl
     rw [cond_eq_ite] at hl
     split at hl
     case isFalse=>cases hl
     rename_i hk
     have hk:rr.length = E.sz elem:=by simpa using hk
     cases hl
     simp only [VRel] at hp
     obtain ⟨a,cc,kk,rfl,hle,_,hor⟩:=hp
     rcases hor with hz|⟨hs,hI,hrows⟩
     ·subst hz;simp at hjl
     obtain ⟨hlen,hat⟩:=VRows.get j hrows hr
     have ha:a = ⟨a.block,a.off,none⟩:=by cases a;simp_all
     refine Val.here (c:=.pointer (some ⟨a.block,a.off + j * kk,none⟩)) r ?_ (by simp only [VRel];exact ⟨_,_,rfl,hI,hat⟩)
     rw [ha]
     simp [Instr.indexAt,asIntOf,run_und ok w hu,h0,h1,run_sz ok w hde,hj,addr_add,← hk,hlen]
  | _=>simp at hl
 ·cases hl
def aindex (E:Env) (t:TypeId) (x ix:AV):Option AV:=
 match E.und t,x with
 | some (.array len elem),.agg cs=>match aidx ix len with
  | some j=>bif (E.und elem).isSome then ofCells E elem ((cs.drop (j * E.sz elem)).take (E.sz elem)) else none
  | none=>none
 | some .string,.str s=>match aidx ix s.length with
  | some j=>match s[j]? with
   | some b=>some (.int .u8 b.toNat)
   | none=>none
  | none=>none
 | _,_=>none
theorem bytes_get (t:ByteArray) (i:Nat):t[i]? = t.data.toList[i]?:=by
 simp only [Array.getElem?_toList]
 by_cases hi:i < t.size
 ·have h2:i < t.data.size:=hi
  rw [getElem?_pos t i hi,getElem?_pos t.data i h2];rfl
 ·have h2:¬ i < t.data.size:=hi
  rw [getElem?_neg t i hi,getElem?_neg t.data i h2]
theorem aindex_ok (ok:EnvOk E) (r:HRel E.G I K ρ h w) {t:TypeId} {x ix v:AV} {c ci:Value} (hl:aindex E t x ix = some v) (hp:VRel I w ρ x c) (hx:VRel I w ρ ix ci) :
 Val E I K ρ h n w (Instr.index t c ci) v .none:=by
 unfold aindex at hl
 split at hl
 ·rename_i len elem cs hu
  cases hi:aidx ix len with
  | none=>simp [hi] at hl
  | some j=>
   simp only [hi] at hl
   obtain ⟨k,i,rfl,_,h0,h1,hj,hjl⟩:=aidx_ok hi hx
   rw [cond_eq_ite] at hl
   split at hl
   case isFalse=>cases hl
   rename_i he
   obtain ⟨de,hde⟩:=Option.isSome_iff_exists.1 he
   simp only [VRel] at hp
   obtain ⟨cv,rfl,hc⟩:=hp
   have hrun:(Instr.index t (.agg cv) (.int k i)).run E.P w = (part elem cv (j * E.sz elem)).run E.P w:=by
    simp [Instr.index,asIntOf,run_und ok w hu,h0,h1,run_sz ok w hde,hj]
   obtain ⟨c,w',ρ',h1,h2⟩:=part_ok ok (n:=n) r hl hc
   exact ⟨c,w',ρ',by rw [hrun,h1],h2⟩
 ·rename_i s hu
  cases hi:aidx ix s.length with
  | none=>simp [hi] at hl
  | some j=>
   simp only [hi] at hl
   obtain ⟨k,i,rfl,_,h0,h1,hj,hjl⟩:=aidx_ok hi hx
   simp only [VRel] at hp
   obtain ⟨tb,rfl,hs⟩:=hp
   cases hb:s[j]? with
   | none=>simp [hb] at hl
   | some b=>
    simp only [hb,Option.some.injEq] at hl
    subst hl
    have:tb[i.toNat]? = some b:=by rw [bytes_get,hs,hj,hb]
    refine Val.here (c:=.int .u8 b.toNat) r ?_ (by simp [VRel])
    simp [Instr.index,asIntOf,run_und ok w hu,h0,this]
 ·cases hl
/-! ### slicing -/
def abound (x:Option AV) (y:Nat) (d:Nat):Option Nat:=
 match x with
 | none=>some d
 | some (.int _ i)=>bif decide (0 ≤ i) && decide (i ≤ (y:Int)) then some i.toNat else none
 | some _=>none
def OptRel (I:Nat → Prop) (w:World) (ρ:PMap):Option AV → Option Value → Prop
 | none,c=>c = none
 | some v,c=>∃ x,c = some x ∧ VRel I w ρ v x
theorem abound_run {x:Option AV} {c:Option Value} {y d j:Nat} (hb:abound x y d = some j) (hx:OptRel I w ρ x c) (y':Nat) (hy:y ≤ y') (code:BoundsCode) :
 (match c with|some v=>Instr.sliceBound v y' code|none=>pure d:Sem Nat).run E.P w = .ok j w ∧ (c.isSome = true → j ≤ y):=by
 unfold abound at hb
 split at hb
 ·simp only [OptRel] at hx;subst hx;cases hb;simp
 ·rename_i k i
  simp only [OptRel,VRel] at hx
  obtain ⟨_,rfl,rfl⟩:=hx
  rw [cond_eq_ite] at hb
  split at hb
  ·rename_i hc
   simp only [Bool.and_eq_true,decide_eq_true_eq] at hc
   cases hb
   have:0 ≤ i ∧ i ≤ (y':Int):=⟨hc.1,by omega⟩
   exact ⟨by simp [Instr.sliceBound,asIntOf,this],fun _=>by omega⟩
  ·cases hb
 ·cases hb
end
end Go.Ax
/- AxSli: slices of slices and strings; composite values; rows that are made. -/
namespace Go.Ax
section
variable {E:Env} {I K:Nat → Prop} {ρ:PMap} {h:FHeap} {n:Nat} {w:World}
def capAtLeast (len:Nat) (cap:Option Nat):Nat:=match cap with|some c=>c|none=>len
def aslice (E:Env) (h:FHeap) (t:TypeId) (x:AV) (lo hi mx:Option AV):Option AV:=
 match E.und t,x with
 | some .string,.str s=>
  match mx,abound hi s.length s.length with
  | none,some j=>match abound lo j 0 with
   | some l=>some (.str ((s.take j).drop l))
   | none=>none
  | _,_=>none
 | some (.slice elem),.slice b off len cap=>
  bif (E.und elem).isSome then
  match h b with
  | some (.row k _)=>bif k == E.sz elem then
   match mx with
   | none=>match abound hi (capAtLeast len cap) len with
    | some j=>match abound lo j 0 with
     | some l=>some (.slice b (off + l) (j - l) (cap.map (·- l)))
     | none=>none
    | none=>none
   | some m=>match abound (some m) (capAtLeast len cap) 0 with
    | some mm=>match hi with
     | none=>none
     | some _=>match abound hi mm 0 with
      | some j=>match abound lo j 0 with
       | some l=>some (.slice b (off + l) (j - l) (some (mm - l)))
       | none=>none
      | none=>none
    | none=>none
   else none
  | _=>none
  else none
 | some (.slice elem),.islice rows cap=>
  bif (E.und elem).isSome && rows.all (fun r=>r.length == E.sz elem) then
   match mx with
   | none=>match abound hi rows.length rows.length with
    | some j=>match abound lo j 0 with
     | some l=>some (.islice ((rows.take j).drop l) (cap.map (·- l)))
     | none=>none
    | none=>none
   | some m=>match abound (some m) rows.length 0 with
    | some mm=>match hi with
     | none=>none
     | some _=>match abound hi mm 0 with
      | some j=>match abound lo j 0 with
       | some l=>some (.islice ((rows.take j).drop l) (some (mm - l)))
       | none=>none
      | none=>none
    | none=>none
  else none
 | some (.slice elem),.nilslice=>
  bif (E.und elem).isSome then
  match mx with
  | none=>match abound hi 0 0 with
   | some j=>match abound lo j 0 with
    | some _=>some .nilslice
    | none=>none
   | none=>none
  | some m=>match abound (some m) 0 0 with
   | some mm=>match hi with
    | none=>none
    | some _=>match abound hi mm 0 with
     | some j=>match abound lo j 0 with
      | some _=>some .nilslice
      | none=>none
     | none=>none
   | none=>none
  else none
 | _,_=>none
theorem bounds2 {lo hi:Option AV} {clo chi:Option Value} {capA lenA j l:Nat} (hj:abound hi capA lenA = some j) (hl:abound lo j 0 = some l)
 (rh:OptRel I w ρ hi chi) (rl:OptRel I w ρ lo clo) (isS:Bool) (len cap:Nat) (hlen:lenA = len) (hcap:capA ≤ cap) (hla:lenA ≤ capA) :
 (Instr.sliceBounds isS len cap clo chi none).run E.P w = .ok (l,j,cap) w ∧ l ≤ j ∧ j ≤ capA:=by
 subst hlen
 have hl0:=abound_run (E:=E) hl rl j (Nat.le_refl _) .sliceB
 have hjl:l ≤ j:=by
  unfold abound at hl
  split at hl
  ·cases hl;omega
  ·rw [cond_eq_ite] at hl;split at hl
   ·rename_i hc;simp only [Bool.and_eq_true,decide_eq_true_eq] at hc;cases hl;omega
   ·cases hl
  ·cases hl
 have hjc:j ≤ capA:=by
  unfold abound at hj
  split at hj
  ·cases hj;omega
  ·rw [cond_eq_ite] at hj;split at hj
   ·rename_i hc;simp only [Bool.and_eq_true,decide_eq_true_eq] at hc;cases hj;omega
   ·cases hj
  ·cases hj
 refine ⟨?_,hjl,hjc⟩
 unfold Instr.sliceBounds
 cases isS
 ·have hj0:=abound_run (E:=E) hj rh cap hcap .sliceAlen
  cases chi<;>cases clo<;>simp at hj0 hl0<;>simp [hj0,hl0]
 ·have hj0:=abound_run (E:=E) hj rh cap hcap .sliceAcap
  cases chi<;>cases clo<;>simp at hj0 hl0<;>simp [hj0,hl0]
theorem bounds3 {lo hi:Option AV} {m:AV} {clo chi:Option Value} {cm:Value} {capA mm j l:Nat} (hm:abound (some m) capA 0 = some mm) (hj:abound hi mm 0 = some j) (hl:abound lo j 0 = some l)
 (rm:VRel I w ρ m cm) (rh:OptRel I w ρ hi chi) (hhi:hi.isSome = true) (rl:OptRel I w ρ lo clo) (isS:Bool) (len cap:Nat) (hcap:capA ≤ cap) :
 (Instr.sliceBounds isS len cap clo chi (some cm)).run E.P w = .ok (l,j,mm) w ∧ l ≤ j ∧ j ≤ mm ∧ mm ≤ capA:=by
 have hchi:∃ ch,chi = some ch:=by
  cases hi with
  | none=>simp at hhi
  | some x=>simp only [OptRel] at rh;obtain ⟨y,h,_⟩:=rh;exact ⟨y,h⟩
 obtain ⟨ch,rfl⟩:=hchi
 have hl0:=abound_run (E:=E) hl rl j (Nat.le_refl _) .slice3C
 have hj0:=abound_run (E:=E) hj rh mm (Nat.le_refl _) .slice3B
 have le:∀ {x:Option AV} {y d z:Nat},abound x y d = some z → d ≤ y → z ≤ y:=by
  intro x y d z hz hd
  unfold abound at hz
  split at hz
  ·cases hz;omega
  ·rw [cond_eq_ite] at hz;split at hz
   ·rename_i hc;simp only [Bool.and_eq_true,decide_eq_true_eq] at hc;cases hz;omega
   ·cases hz
  ·cases hz
 refine ⟨?_,le hl (Nat.zero_le _),le hj (Nat.zero_le _),le hm (Nat.zero_le _)⟩
 unfold Instr.sliceBounds
 cases isS
 ·have hm0:=abound_run (E:=E) (c:=some cm) hm (by simp only [OptRel];exact ⟨cm,rfl,rm⟩) cap hcap .slice3Alen
  cases clo<;>simp at hm0 hj0 hl0<;>simp [hm0,hj0,hl0]
 ·have hm0:=abound_run (E:=E) (c:=some cm) hm (by simp only [OptRel];exact ⟨cm,rfl,rm⟩) cap hcap .slice3Acap
  cases clo<;>simp at hm0 hj0 hl0<;>simp [hm0,hj0,hl0]
theorem run_sliceAt_slice (ok:EnvOk E) {t elem:TypeId} (hu:E.und t = some (.slice elem)) {de:TypeDesc} (he:E.und elem = some de) {a:Option Addr} {len cap l j m:Nat} {clo chi cmx:Option Value}
 (hb:(Instr.sliceBounds true len cap clo chi cmx).run E.P w = .ok (l,j,m) w) :
 (Instr.sliceAt t (.slice a len cap) clo chi cmx).run E.P w = .ok (.slice (if m = l then a else a.map (·.add (l * E.sz elem))) (j - l) (m - l)) w:=by
 simp [Instr.sliceAt,run_und ok w hu,Instr.slice,hb,run_sz ok w he]
theorem extract_toList (s:ByteArray) (l j:Nat):(s.extract l j).data.toList = (s.data.toList.take j).drop l:=by
 rw [ByteArray.data_extract,Array.toList_extract,List.extract_eq_take_drop]
 rw [List.drop_take]
theorem vrel_slice_sub {b off len:Nat} {cap:Option Nat} {a:Addr} {c l j m:Nat} {k:Nat} {rows:List (List AV)} {capR:Option Nat} {sz:Nat}
 (r:HRel E.G I K ρ h w) (hb:h b = some (.row k rows)) (hk:k = sz) (hp:VRel I w ρ (.slice b off len cap) (.slice (some a) len c))
 (hlj:l ≤ j) (hjm:j ≤ m) (hmc:m ≤ c) (hcap:∀ n,capR = some n → m - l = n) :
 VRel I w ρ (.slice b (off + l) (j - l) capR) (.slice (if m = l then some a else (some a).map (·.add (l * sz))) (j - l) (m - l)):=by
 simp only [VRel] at hp ⊢
 obtain ⟨a',c',he,hle,hc,hor⟩:=hp
 cases he
 by_cases hml:m = l
 ·rw [if_pos hml]
  exact ⟨a,m - l,by simp,by omega,hcap,.inl (by omega)⟩
 ·rw [if_neg hml]
  rcases hor with h0|⟨mm,hmm,rfl,hroom⟩
  ·omega
  ·obtain ⟨m',hm',_,_,ho⟩:=r.live b _ hb
   obtain rfl:mm = m':=Option.some.inj (hmm.symm.trans hm')
   refine ⟨_,m - l,rfl,by omega,hcap,.inr ⟨mm,hmm,?_,?_⟩⟩
   ·dsimp only
    rw [addr_add,ho.1,hk,Nat.add_mul]
    congr 1;omega
   ·have:(off + l + (m - l)) * mm.k ≤ (off + c) * mm.k:=Nat.mul_le_mul_right _ (by omega)
    omega
theorem vrel_islice_sub {rows:List (List AV)} {cap:Option Nat} {a:Addr} {c l j m sz:Nat} {capR:Option Nat} (hall:rows.all (fun r=>r.length == sz) = true)
 (hp:VRel I w ρ (.islice rows cap) (.slice (some a) rows.length c)) (hlj:l ≤ j) (hjm:j ≤ m) (hjr:j ≤ rows.length) (_:m ≤ c) (hcap:∀ n,capR = some n → m - l = n) :
 VRel I w ρ (.islice ((rows.take j).drop l) capR) (.slice (if m = l then some a else (some a).map (·.add (l * sz))) (j - l) (m - l)):=by
 simp only [VRel] at hp ⊢
 obtain ⟨a',c',k,he,hle,hc,hor⟩:=hp
 cases he
 have hlen:((rows.take j).drop l).length = j - l:=by simp;omega
 by_cases hml:m = l
 ·rw [if_pos hml]
  refine ⟨a,m - l,k,by rw [hlen],by rw [hlen];omega,hcap,.inl ?_⟩
  apply List.drop_eq_nil_of_le
  simp;omega
 ·rw [if_neg hml]
  refine ⟨_,m - l,k,by rw [hlen];rfl,by rw [hlen];omega,hcap,?_⟩
  rcases hor with h0|⟨hs,hI,hrows⟩
  ·left;subst h0;simp
  ·by_cases hr:rows = []
   ·left;subst hr;simp
   ·right
    have hkk:k = sz:=by
     cases rows with
     | nil=>exact absurd rfl hr
     | cons r rs=>
      simp only [VRows] at hrows
      simp only [List.all_cons,Bool.and_eq_true,beq_iff_eq] at hall
      omega
    have ha:a = ⟨a.block,a.off,none⟩:=by cases a;simp_all
    rw [ha]
    dsimp only
    rw [addr_add]
    refine ⟨rfl,hI,?_⟩
    have h2:l ≤ (rows.take j).length:=by simp;omega
    have:=VRows.drop l h2 (VRows.take j hrows)
    rw [hkk] at this ⊢
    exact this
theorem aslice_ok (ok:EnvOk E) (r:HRel E.G I K ρ h w) {t:TypeId} {x v:AV} {lo hi mx:Option AV} {c:Value} {clo chi cmx:Option Value} (hl:aslice E h t x lo hi mx = some v)
 (hx:VRel I w ρ x c) (rl:OptRel I w ρ lo clo) (rh:OptRel I w ρ hi chi) (rm:OptRel I w ρ mx cmx):Val E I K ρ h n w (Instr.sliceAt t c clo chi cmx) v .none:=by
 unfold aslice at hl
 split at hl
 · -- strings
  rename_i s hu
  split at hl
  ·rename_i j hj
   simp only [OptRel] at rm;subst rm
   cases hlo:abound lo j 0 with
   | none=>simp [hlo] at hl
   | some l=>
    simp only [hlo,Option.some.injEq] at hl
    subst hl
    simp only [VRel] at hx
    obtain ⟨tb,rfl,hs⟩:=hx
    have hsz:tb.size = s.length:=by rw [← hs,Array.length_toList];rfl
    obtain ⟨hb,h1,h2⟩:=bounds2 (E:=E) hj hlo rh rl false tb.size tb.size hsz.symm (by omega) (Nat.le_refl _)
    refine Val.here (c:=.string (tb.extract l j)) r ?_ (by simp only [VRel];exact ⟨_,rfl,by rw [extract_toList,hs]⟩)
    simp [Instr.sliceAt,run_und ok w hu,Instr.slice,hb]
  ·cases hl
 · -- a mutable block
  rename_i elem b off len cap hu
  rw [cond_eq_ite] at hl
  split at hl
  case isFalse=>cases hl
  rename_i he
  obtain ⟨de,hde⟩:=Option.isSome_iff_exists.1 he
  split at hl
  case h_2=>cases hl
  rename_i k rows hb
  rw [cond_eq_ite] at hl
  split at hl
  case isFalse=>cases hl
  rename_i hk
  have hk:k = E.sz elem:=by simpa using hk
  have hx':=hx
  simp only [VRel] at hx'
  obtain ⟨a,cc,rfl,hle,hcap,hor⟩:=hx'
  have hcapA:capAtLeast len cap ≤ cc:=by unfold capAtLeast;cases cap with|none=>exact hle|some c=>rw [hcap c rfl];exact Nat.le_refl _
  have hlenA:len ≤ capAtLeast len cap:=by unfold capAtLeast;cases cap with|none=>exact Nat.le_refl _|some c=>rw [← hcap c rfl];exact hle
  cases mx with
  | none=>
   simp only [OptRel] at rm;subst rm
   simp only at hl
   cases hj:abound hi (capAtLeast len cap) len with
   | none=>simp [hj] at hl
   | some j=>
    simp only [hj] at hl
    cases hlo:abound lo j 0 with
    | none=>simp [hlo] at hl
    | some l=>
     simp only [hlo,Option.some.injEq] at hl
     subst hl
     obtain ⟨hbd,h1,h2⟩:=bounds2 (E:=E) hj hlo rh rl true len cc rfl hcapA hlenA
     refine Val.here r (run_sliceAt_slice ok hu hde hbd) (vrel_slice_sub r hb hk hx h1 (by omega) (Nat.le_refl _) ?_)
     intro q hq
     cases cap with
     | none=>simp at hq
     | some c=>simp at hq;rw [hcap c rfl];exact hq
  | some m=>
   simp only [OptRel] at rm
   obtain ⟨cm,rfl,rm⟩:=rm
   simp only at hl
   cases hmm:abound (some m) (capAtLeast len cap) 0 with
   | none=>simp [hmm] at hl
   | some mm=>
    simp only [hmm] at hl
    cases hi with
    | none=>simp at hl
    | some hi=>
     simp only at hl
     cases hj:abound (some hi) mm 0 with
     | none=>simp [hj] at hl
     | some j=>
      simp only [hj] at hl
      cases hlo:abound lo j 0 with
      | none=>simp [hlo] at hl
      | some l=>
       simp only [hlo,Option.some.injEq] at hl
       subst hl
       obtain ⟨hbd,h1,h2,h3⟩:=bounds3 (E:=E) hmm hj hlo rm rh rfl rl true len cc hcapA
       exact Val.here r (run_sliceAt_slice ok hu hde hbd) (vrel_slice_sub r hb hk hx h1 h2 (by omega) (fun q hq=>by cases hq;rfl))
 · -- immutable memory
  rename_i elem rows cap hu
  rw [cond_eq_ite] at hl
  split at hl
  case isFalse=>cases hl
  rename_i he
  simp only [Bool.and_eq_true] at he
  obtain ⟨de,hde⟩:=Option.isSome_iff_exists.1 he.1
  have hx':=hx
  simp only [VRel] at hx'
  obtain ⟨a,cc,kk,rfl,hle,hcap,hor⟩:=hx'
  cases mx with
  | none=>
   simp only [OptRel] at rm;subst rm
   simp only at hl
   cases hj:abound hi rows.length rows.length with
   | none=>simp [hj] at hl
   | some j=>
    simp only [hj] at hl
    cases hlo:abound lo j 0 with
    | none=>simp [hlo] at hl
    | some l=>
     simp only [hlo,Option.some.injEq] at hl
     subst hl
     obtain ⟨hbd,h1,h2⟩:=bounds2 (E:=E) hj hlo rh rl true rows.length cc rfl hle (Nat.le_refl _)
     refine Val.here r (run_sliceAt_slice ok hu hde hbd) (vrel_islice_sub he.2 hx h1 (by omega) h2 (Nat.le_refl _) ?_)
     intro q hq
     cases cap with
     | none=>simp at hq
     | some c=>simp at hq;rw [hcap c rfl];exact hq
  | some m=>
   simp only [OptRel] at rm
   obtain ⟨cm,rfl,rm⟩:=rm
   simp only at hl
   cases hmm:abound (some m) rows.length 0 with
   | none=>simp [hmm] at hl
   | some mm=>
    simp only [hmm] at hl
    cases hi with
    | none=>simp at hl
    | some hi=>
     simp only at hl
     cases hj:abound (some hi) mm 0 with
     | none=>simp [hj] at hl
     | some j=>
      simp only [hj] at hl
      cases hlo:abound lo j 0 with
      | none=>simp [hlo] at hl
      | some l=>
       simp only [hlo,Option.some.injEq] at hl
       subst hl
       obtain ⟨hbd,h1,h2,h3⟩:=bounds3 (E:=E) hmm hj hlo rm rh rfl rl true rows.length cc hle
       exact Val.here r (run_sliceAt_slice ok hu hde hbd) (vrel_islice_sub he.2 hx h1 h2 (by omega) (by omega) (fun q hq=>by cases hq;rfl))
 · -- nil
  rename_i elem hu
  rw [cond_eq_ite] at hl
  split at hl
  case isFalse=>cases hl
  rename_i he
  obtain ⟨de,hde⟩:=Option.isSome_iff_exists.1 he
  simp only [VRel] at hx
  subst hx
  cases mx with
  | none=>
   simp only [OptRel] at rm;subst rm
   simp only at hl
   cases hj:abound hi 0 0 with
   | none=>simp [hj] at hl
   | some j=>
    simp only [hj] at hl
    cases hlo:abound lo j 0 with
    | none=>simp [hlo] at hl
    | some l=>
     simp only [hlo,Option.some.injEq] at hl
     subst hl
     obtain ⟨hbd,h1,h2⟩:=bounds2 (E:=E) hj hlo rh rl true 0 0 rfl (Nat.le_refl _) (Nat.le_refl _)
     obtain rfl:j = 0:=by omega
     obtain rfl:l = 0:=by omega
     exact Val.here (c:=.slice none 0 0) r (by rw [run_sliceAt_slice ok hu hde hbd];rfl) (by simp [VRel])
  | some m=>
   simp only [OptRel] at rm
   obtain ⟨cm,rfl,rm⟩:=rm
   simp only at hl
   cases hmm:abound (some m) 0 0 with
   | none=>simp [hmm] at hl
   | some mm=>
    simp only [hmm] at hl
    cases hi with
    | none=>simp at hl
    | some hi=>
     simp only at hl
     cases hj:abound (some hi) mm 0 with
     | none=>simp [hj] at hl
     | some j=>
      simp only [hj] at hl
      cases hlo:abound lo j 0 with
      | none=>simp [hlo] at hl
      | some l=>
       simp only [hlo,Option.some.injEq] at hl
       subst hl
       obtain ⟨hbd,h1,h2,h3⟩:=bounds3 (E:=E) hmm hj hlo rm rh rfl rl true 0 0 (Nat.le_refl _)
       obtain rfl:mm = 0:=by omega
       obtain rfl:j = 0:=by omega
       obtain rfl:l = 0:=by omega
       exact Val.here (c:=.slice none 0 0) r (by rw [run_sliceAt_slice ok hu hde hbd];rfl) (by simp [VRel])
 ·cases hl
end
end Go.Ax
/- AxMake: composite values, slice literals, make. -/
namespace Go.Ax
section
variable {E:Env} {I K:Nat → Prop} {ρ:PMap} {h:FHeap} {n:Nat} {w:World}
def AV.isJunk:AV → Bool
 | .junk=>true
 | _=>false
theorem AV.not_junk {v:AV} (h:v.isJunk = false):v ≠ .junk:=by rintro rfl;simp [AV.isJunk] at h
def afill (place:Nat → Option (Nat × Nat)) (cells:List AV):List (Nat × AV) → Option (List AV)
 | []=>some cells
 | (i,v) :: rest=>match place i with
  | none=>none
  | some (off,size)=>bif !v.isJunk && v.cells.length == size && Nat.ble (off + size) cells.length then afill place (splice cells off v.cells) rest else none
def PartsRel (I:Nat → Prop) (w:World) (ρ:PMap):List (Nat × AV) → List (Nat × Value) → Prop
 | [],l=>l = []
 | (i,v) :: r,l=>∃ c r',l = (i,c) :: r' ∧ VRel I w ρ v c ∧ PartsRel I w ρ r r'
def cput (a:List Value) (off:Nat) (cs:List Value):List Value:=a.take off ++ cs ++ a.drop (off + cs.length)
theorem foldl_put (off:Nat):∀ (cs:List Value) (j:Nat) (a:Array Value),off + j + cs.length ≤ a.size →
 (((cs.zipIdx j).foldl (fun (a:Array Value) (x:Value × Nat)=>a.setIfInBounds (off + x.2) x.1) a).toList = cput a.toList (off + j) cs)
 | [],j,a,_=>by simp [cput]
 | c :: cs,j,a,hl=>by
  simp only [List.length_cons] at hl
  simp only [List.zipIdx_cons,List.foldl_cons]
  rw [foldl_put off cs (j + 1) _ (by simp;omega)]
  unfold cput
  simp only [Array.toList_setIfInBounds,List.length_cons]
  rw [show off + (j + 1) = (off + j) + 1 by omega,show (off + j) + (cs.length + 1) = (off + j) + 1 + cs.length by omega]
  have hlt:off + j < a.toList.length:=by simp;omega
  rw [List.take_succ_eq_append_getElem (by simpa using hlt),List.take_set_of_le (Nat.le_refl _),List.drop_set_of_lt (by omega)]
  simp
theorem VRels.splice {vs cs:List AV} {xs ys:List Value} {off:Nat} (h:VRels I w ρ vs xs) (k:VRels I w ρ cs ys):VRels I w ρ (Ax.splice vs off cs) (cput xs off ys):=by
 unfold Ax.splice cput
 rw [VRels.length k]
 exact VRels.append (VRels.append (VRels.take off h) k) (VRels.drop _ h)
theorem afill_ok {place:Nat → Option (Nat × Nat)}:∀ {parts:List (Nat × AV)} {cells res:List AV} {cv:Array Value} {cparts:List (Nat × Value)},
 afill place cells parts = some res → VRels I w ρ cells cv.toList → PartsRel I w ρ parts cparts → ∃ cv',Instr.fill place cv cparts = some cv' ∧ VRels I w ρ res cv'.toList
 | [],cells,res,cv,cparts,hf,hc,hp=>by
  simp only [PartsRel] at hp;subst hp
  simp only [afill,Option.some.injEq] at hf;subst hf
  exact ⟨cv,rfl,hc⟩
 | (i,v) :: rest,cells,res,cv,cparts,hf,hc,hp=>by
  simp only [PartsRel] at hp
  obtain ⟨c,r',rfl,hv,hp⟩:=hp
  simp only [afill] at hf
  cases hpl:place i with
  | none=>simp [hpl] at hf
  | some os=>
   obtain ⟨off,size⟩:=os
   simp only [hpl] at hf
   rw [cond_eq_ite] at hf
   split at hf
   case isFalse=>cases hf
   rename_i hcond
   simp only [Bool.and_eq_true,Bool.not_eq_true',beq_iff_eq,Nat.ble_eq] at hcond
   obtain ⟨⟨hj,hsz⟩,hfit⟩:=hcond
   have hcs:=VRel.cells hv (AV.not_junk hj)
   have hlc:=VRels.length hcs
   have hlcell:=VRels.length hc
   simp only [Array.length_toList] at hlc hlcell
   have hput:=foldl_put off c.cells.toList 0 cv (by simp;omega)
   simp only [Nat.add_zero] at hput
   have hnew:VRels I w ρ (splice cells off v.cells) ((c.cells.zipIdx.foldl (fun cs (x:Value × Nat)=>cs.setIfInBounds (off + x.2) x.1) cv).toList):=by
    have e:(c.cells.zipIdx.foldl (fun cs (x:Value × Nat)=>cs.setIfInBounds (off + x.2) x.1) cv) =
     (c.cells.toList.zipIdx.foldl (fun cs (x:Value × Nat)=>cs.setIfInBounds (off + x.2) x.1) cv):=by
     rw [← Array.foldl_toList,Array.toList_zipIdx]
    rw [e,hput]
    exact VRels.splice hc hcs
   obtain ⟨cv',h1,h2⟩:=afill_ok hf hnew hp
   refine ⟨cv',?_,h2⟩
   simp only [Instr.fill,hpl]
   have:¬ ((c.cells.size ≠ size || decide (off + c.cells.size > cv.size)) = true):=by
    simp only [ne_eq,Bool.or_eq_true,decide_eq_true_eq,not_or]
    omega
   rw [if_neg (by simpa using this)]
   exact h1
def abuild (E:Env) (t:TypeId) (parts:List (Nat × AV)):Option AV:=
 match E.zero t with
 | none=>none
 | some z=>match E.und t with
  | some (.struct fs)=>bif fs.toList.all (fun f=>(E.und f.type).isSome) then
   match afill (fun i=>(fs[i]?).map fun f=>(f.offset,E.sz f.type)) z parts with
   | some cs=>some (.agg cs)
   | none=>none
   else none
  | some (.array _ elem)=>bif (E.und elem).isSome then
   match afill (fun i=>some (i * E.sz elem,E.sz elem)) z parts with
   | some cs=>some (.agg cs)
   | none=>none
   else none
  | _=>none
theorem run_places (ok:EnvOk E):∀ (fs:List Field) (w:World),fs.all (fun f=>(E.und f.type).isSome) = true →
 (fs.mapM (fun f=>do pure (f.offset,← sizeOf f.type):Field → Sem (Nat × Nat))).run E.P w = .ok (fs.map fun (f:Field)=>(f.offset,E.sz f.type)) w
 | [],w,_=>by simp
 | f :: fs,w,hf=>by
  simp only [List.all_cons,Bool.and_eq_true] at hf
  obtain ⟨d,hd⟩:=Option.isSome_iff_exists.1 hf.1
  have ih:=run_places ok fs w hf.2
  simp only [List.mapM_cons,Sem.run_bind,run_sz ok w hd,Result.andThen_ok,Sem.run_pure,ih,List.map_cons]
theorem abuild_ok (ok:EnvOk E) (r:HRel E.G I K ρ h w) {t:TypeId} {parts:List (Nat × AV)} {cparts:List (Nat × Value)} {v:AV} (hl:abuild E t parts = some v) (hp:PartsRel I w ρ parts cparts) :
 Val E I K ρ h n w (Instr.build t cparts.toArray) v .none:=by
 unfold abuild at hl
 cases hz:E.zero t with
 | none=>simp [hz] at hl
 | some z=>
  simp only [hz] at hl
  obtain ⟨zv,hzv,_,hrel⟩:=run_zero ok w hz
  have hcells:VRels I w ρ z zv.cells.toList:=VRels.noRef_any (hrel I w)
  split at hl
  ·rename_i fs hu
   rw [cond_eq_ite] at hl
   split at hl
   case isFalse=>cases hl
   rename_i hall
   split at hl
   case h_2=>cases hl
   rename_i cs hf
   cases hl
   obtain ⟨cv',h1,h2⟩:=afill_ok hf hcells hp
   refine Val.here (c:=.agg cv') r ?_ (by simp only [VRel];exact ⟨cv',rfl,h2⟩)
   have hpl:=run_places ok fs.toList w hall
   have hm:(fs.mapM (fun f=>do pure (f.offset,← sizeOf f.type):Field → Sem (Nat × Nat))).run E.P w = .ok (fs.map fun (f:Field)=>(f.offset,E.sz f.type)) w:=by
    rw [Array.mapM_eq_mapM_toList,Sem.run_map,hpl]
    simp only [Result.andThen_ok]
    congr 1
    apply Array.ext'
    simp
   have hplace:(fun (i:Nat)=>(fs.map fun (f:Field)=>(f.offset,E.sz f.type))[i]?) = (fun (i:Nat)=>(fs[i]?).map fun (f:Field)=>(f.offset,E.sz f.type)):=by
    funext i;simp
   simp only [Instr.build,Sem.run_bind,hzv,Result.andThen_ok,run_und ok w hu,hm,hplace,h1,Sem.run_pure]
  ·rename_i m elem hu
   rw [cond_eq_ite] at hl
   split at hl
   case isFalse=>cases hl
   rename_i he
   obtain ⟨de,hde⟩:=Option.isSome_iff_exists.1 he
   split at hl
   case h_2=>cases hl
   rename_i cs hf
   cases hl
   obtain ⟨cv',h1,h2⟩:=afill_ok hf hcells hp
   refine Val.here (c:=.agg cv') r ?_ (by simp only [VRel];exact ⟨cv',rfl,h2⟩)
   simp only [Instr.build,Sem.run_bind,hzv,Result.andThen_ok,run_und ok w hu,run_sz ok w hde,h1,Sem.run_pure]
  ·cases hl
/-! ### rows of equal elements -/
theorem range_mod_flatten {α:Type} [Inhabited α] (zs:List α):∀ c:Nat,((List.range (c * zs.length)).map fun i=>zs[i % zs.length]!) = (List.replicate c zs).flatten
 | 0=>by simp
 | c + 1=>by
  rw [Nat.succ_mul,List.range_add,List.map_append,range_mod_flatten zs c,List.replicate_succ',List.flatten_append]
  congr 1
  simp only [List.map_map,List.flatten_cons,List.flatten_nil,List.append_nil]
  apply List.ext_getElem
  ·simp
  ·intro i h1 h2
   simp only [List.getElem_map,List.getElem_range,Function.comp]
   rw [Nat.add_comm,Nat.add_mul_mod_self_right,Nat.mod_eq_of_lt h2]
   simp [h2]
theorem VRels.flatten_replicate {z:List AV} {zs:List Value} (hz:VRels I w ρ z zs):∀ c,VRels I w ρ (List.replicate c z).flatten (List.replicate c zs).flatten
 | 0=>by simp [VRels]
 | c + 1=>by simp only [List.replicate_succ,List.flatten_cons];exact VRels.append hz (VRels.flatten_replicate hz c)
def amakeSlice (E:Env) (n:Nat) (t:TypeId) (len cap:AV):Option (AV × Eff):=
 match E.und t,len,cap with
 | some (.slice elem),.int _ l,.int _ c=>
  match E.zero elem with
  | some z=>bif decide (0 ≤ l) && decide (l ≤ c) && decide (c ≤ 281474976710656) && decide ((E.bytes elem:Int) * c ≤ 281474976710656) && Nat.blt 0 z.length then
   some (.slice n 0 l.toNat (some c.toNat),.new (.row z.length (List.replicate c.toNat z))) else none
  | none=>none
 | _,_,_=>none
theorem wrap_small {x:Int} (h0:0 ≤ x) (h1:x ≤ 281474976710656):IntKind.i64.wrap x = x:=by
 simp [IntKind.wrap,IntKind.signed,IntKind.bits]
 omega
theorem amakeSlice_ok (ok:EnvOk E) (r:HRel E.G I K ρ h w) (hn:h n = none) (hρ:ρ n = none) {t:TypeId} {len cap v:AV} {e:Eff} {cl cc:Value} (ha:amakeSlice E n t len cap = some (v,e))
 (hlen:VRel I w ρ len cl) (hcap:VRel I w ρ cap cc):Val E I K ρ h n w (Instr.makeSlice t cl cc) v e:=by
 unfold amakeSlice at ha
 split at ha
 ·rename_i elem k1 l k2 c hu
  cases hz:E.zero elem with
  | none=>simp [hz] at ha
  | some z=>
   simp only [hz] at ha
   rw [cond_eq_ite] at ha
   split at ha
   case isFalse=>cases ha
   rename_i hc
   simp only [Bool.and_eq_true,decide_eq_true_eq,Nat.blt_eq] at hc
   obtain ⟨⟨⟨⟨h0,h1⟩,h2⟩,h3⟩,h4⟩:=hc
   cases ha
   simp only [VRel] at hlen hcap
   subst hlen hcap
   obtain ⟨⟨de,hde⟩,_⟩:=ok.zero elem z hz
   obtain ⟨zv,hzv,hzl,hrel⟩:=run_zero ok w hz
   have hzr:=hrel I w
   have hzlen:=VRels.length hzr
   obtain ⟨i,hi,hi1,hi2⟩:=run_info ok w hde
   have hwc:IntKind.i64.wrap c = c:=wrap_small (by omega) h2
   have hwl:IntKind.i64.wrap l = l:=wrap_small h0 (by omega)
   have hbc:(i.bytes:Int) * c ≤ 281474976710656:=by rw [hi2];exact h3
   have hbl:(i.bytes:Int) * l ≤ 281474976710656:=Int.le_trans (Int.mul_le_mul_of_nonneg_left h1 (by omega)) hbc
   have hzero:∀ w',(zeroValue elem).run E.P w' = .ok zv w':=by
    intro w'
    obtain ⟨_,i',z',hi',hz',_⟩:=ok.zero elem z hz
    have:=hzv
    simp [zeroValue,typeInfo,hi',hz'] at this ⊢
    exact this
   refine newRow_ok (el:=elem) (k:=z.length) (rows:=List.replicate c.toNat z) (cells:=(Array.range (c.toNat * E.sz elem)).map (fun i=>zv.cells[i % zv.cells.size]!))
    (mk:=fun a=>.slice (some a) l.toNat c.toNat) r hn hρ h4 (by intro x hx;rw [List.eq_of_mem_replicate hx]) ?_ ⟨rfl,rfl,rfl,rfl⟩ ?_ ?_
   ·rw [show ((Array.range (c.toNat * E.sz elem)).map (fun i=>zv.cells[i % zv.cells.size]!)).toList = (List.replicate c.toNat zv.cells.toList).flatten by
     rw [← range_mod_flatten]
     simp only [Array.toList_map,Array.toList_range,Array.length_toList]
     rw [show E.sz elem = zv.cells.size by rw [← hzl,hzlen];simp]
     apply List.map_congr_left
     intro a _
     rw [Array.getElem!_toList]]
    exact VRels.flatten_replicate (VRels.noRef_any hzr) _
   ·have hnot:¬ (c < 0 ∨ 281474976710656 < (i.bytes:Int) * c):=by omega
    have e1:(decide (c < 0) || decide ((i.bytes:Int) * c > 2 ^ 48) || decide (l < 0) || decide (l > c)) = false:=by
     simp only [Bool.or_eq_false_iff,decide_eq_false_iff_not];omega
    simp only [Instr.makeSlice,Sem.run_bind,run_und ok w hu,Result.andThen_ok,asInt,asIntOf,Sem.run_pure,hi,hwc,hwl]
    simp only [e1,Bool.false_eq_true,if_false]
    by_cases hn0:c.toNat * E.sz elem = 0
    ·have:c.toNat = 0:=by
      rcases Nat.mul_eq_zero.1 hn0 with h|h
      ·exact h
      ·omega
     have hr0:∀ f:Nat → Value,Array.map f (Array.range 0) = #[]:=by intro f;simp
     simp [run_sz ok w hde,this,run_newRow]
     rw [hr0,hr0]
    ·simp [run_sz ok w hde,hn0,hzero,run_newRow]
   ·intro w' ρ' h'
    simp only [VRel]
    exact ⟨_,c.toNat,rfl,by omega,fun q hq=>by cases hq;rfl,.inr ⟨_,h',by simp,by simp [hzl]⟩⟩
 ·cases ha
def arows (k:Nat) (rows:List (List AV)):List (Nat × AV) → Option (List (List AV))
 | []=>some rows
 | (i,v) :: rest=>bif !v.isJunk && v.cells.length == k && Nat.blt i rows.length then arows k (rows.set i v.cells) rest else none
theorem flatten_set {k:Nat}:∀ (rows:List (List AV)) (i:Nat) (cs:List AV),(∀ r ∈ rows,r.length = k) → cs.length = k → i < rows.length → (rows.set i cs).flatten = splice rows.flatten (i * k) cs
 | [],i,cs,_,_,hi=>by simp at hi
 | r :: rows,0,cs,hr,hc,_=>by
  have:r.length = cs.length:=by rw [hr r (by simp),hc]
  simp [splice,← this]
 | r :: rows,i + 1,cs,hr,hc,hi=>by
  have hk:r.length = k:=hr r (by simp)
  have ih:=flatten_set rows i cs (fun r hr'=>hr r (by simp [hr'])) hc (by simpa using hi)
  simp only [List.set_cons_succ,List.flatten_cons,ih]
  unfold splice
  rw [Nat.succ_mul,List.take_append,List.drop_append]
  have e1:r.take (i * k + k) = r:=List.take_of_length_le (by omega)
  have e2:r.drop (i * k + k + cs.length) = []:=List.drop_eq_nil_of_le (by omega)
  rw [e1,e2]
  rw [show i * k + k - r.length = i * k by omega,show i * k + k + cs.length - r.length = i * k + cs.length by omega]
  simp
theorem arows_fill {k:Nat} (len:Nat):∀ {parts:List (Nat × AV)} {rows res:List (List AV)},arows k rows parts = some res → (∀ r ∈ rows,r.length = k) → rows.length = len →
 afill (fun i=>some (i * k,k)) rows.flatten parts = some res.flatten ∧ (∀ r ∈ res,r.length = k) ∧ res.length = len
 | [],rows,res,hf,hr,hlen=>by
  simp only [arows,Option.some.injEq] at hf;subst hf;exact ⟨rfl,hr,hlen⟩
 | (i,v) :: rest,rows,res,hf,hr,hlen=>by
  simp only [arows] at hf
  rw [cond_eq_ite] at hf
  split at hf
  case isFalse=>cases hf
  rename_i hc
  simp only [Bool.and_eq_true,Bool.not_eq_true',beq_iff_eq,Nat.blt_eq] at hc
  obtain ⟨⟨hj,hk⟩,hi⟩:=hc
  have ih:=arows_fill len hf (by
   intro r hr'
   rcases List.mem_or_eq_of_mem_set hr' with h|h
   ·exact hr r h
   ·rw [h,hk]) (by simpa using hlen)
  refine ⟨?_,ih.2⟩
  simp only [afill]
  have hfl:=flatten_length_of hr
  have hfit:Nat.ble (i * k + k) rows.flatten.length = true:=by
   rw [Nat.ble_eq,hfl,← Nat.succ_mul]
   exact Nat.mul_le_mul_right k hi
  simp only [hj,hk,hfit,Bool.not_false,beq_self_eq_true,Bool.and_self,cond_true]
  rw [← flatten_set rows i v.cells hr hk hi]
  exact ih.1
def abuildSlice (E:Env) (n:Nat) (t:TypeId) (len:Nat) (parts:List (Nat × AV)):Option (AV × Eff):=
 match E.und t with
 | some (.slice elem)=>match E.zero elem with
  | some z=>bif Nat.blt 0 z.length && Nat.ble (len * z.length) 16777216 then
   match arows z.length (List.replicate len z) parts with
   | some rows=>some (.slice n 0 len (some len),.new (.row z.length rows))
   | none=>none
   else none
  | none=>none
 | _=>none
theorem abuildSlice_ok (ok:EnvOk E) (r:HRel E.G I K ρ h w) (hn:h n = none) (hρ:ρ n = none) {t:TypeId} {len:Nat} {parts:List (Nat × AV)} {cparts:List (Nat × Value)} {v:AV} {e:Eff}
 (ha:abuildSlice E n t len parts = some (v,e)) (hp:PartsRel I w ρ parts cparts):Val E I K ρ h n w (Instr.buildSlice t len cparts.toArray) v e:=by
 unfold abuildSlice at ha
 split at ha
 ·rename_i elem hu
  cases hz:E.zero elem with
  | none=>simp [hz] at ha
  | some z=>
   simp only [hz] at ha
   rw [cond_eq_ite] at ha
   split at ha
   case isFalse=>cases ha
   rename_i hc
   simp only [Bool.and_eq_true,Nat.blt_eq,Nat.ble_eq] at hc
   split at ha
   case h_2=>cases ha
   rename_i rows hrows
   cases ha
   obtain ⟨⟨de,hde⟩,_⟩:=ok.zero elem z hz
   obtain ⟨zv,hzv,hzl,hrel⟩:=run_zero ok w hz
   have hzr:=hrel I w
   have hzlen:=VRels.length hzr
   simp only [Array.length_toList] at hzlen
   obtain ⟨hfill,hlens,hlen⟩:=arows_fill len hrows (by intro x hx;rw [List.eq_of_mem_replicate hx]) (by simp)
   have hcell0:VRels I w ρ (List.replicate len z).flatten ((Array.range (len * E.sz elem)).map (fun i=>zv.cells[i % zv.cells.size]!)).toList:=by
    rw [show ((Array.range (len * E.sz elem)).map (fun i=>zv.cells[i % zv.cells.size]!)).toList = (List.replicate len zv.cells.toList).flatten by
     rw [← range_mod_flatten]
     simp only [Array.toList_map,Array.toList_range,Array.length_toList]
     rw [show E.sz elem = zv.cells.size by rw [← hzl,hzlen]]
     apply List.map_congr_left
     intro a _
     rw [Array.getElem!_toList]]
    exact VRels.flatten_replicate (VRels.noRef_any hzr) _
   obtain ⟨cv',h1,h2⟩:=afill_ok hfill hcell0 hp
   refine newRow_ok (el:=elem) (k:=z.length) (cells:=cv') (mk:=fun a=>.slice (some a) len len) r hn hρ hc.1 hlens h2 ⟨rfl,rfl,rfl,rfl⟩ ?_ ?_
   ·have hle:¬ (len * E.sz elem > 2 ^ 24):=by rw [← hzl];omega
    rw [hzl] at h1
    simp only [Instr.buildSlice,Sem.run_bind,run_und ok w hu,Result.andThen_ok,run_sz ok w hde,hle,if_false]
    by_cases hn0:len * E.sz elem = 0
    ·have hr0:∀ f:Nat → Value,Array.map f (Array.range 0) = #[]:=by intro f;simp
     simp only [hn0,if_true,hr0] at h1 ⊢
     simp [h1,run_newRow]
    ·simp only [hn0,if_false,Sem.run_bind,hzv,Result.andThen_ok,Sem.run_pure]
     simp [h1,run_newRow]
   ·intro w' ρ' h'
    simp only [VRel]
    exact ⟨_,len,rfl,Nat.le_refl _,fun q hq=>by cases hq;rfl,.inr ⟨_,h',by simp,by
     have h3:len * z.length = cv'.size:=by
      have:=VRels.length h2
      rw [flatten_length_of hlens,hlen,Array.length_toList] at this
      exact this
     show 0 + (0 + len) * z.length ≤ cv'.size
     rw [Nat.zero_add,Nat.zero_add,h3]
     exact Nat.le_refl _⟩⟩
 ·cases ha
end
end Go.Ax
/- AxRen: block numbers that are renamed; what is frozen. -/
namespace Go.Ax
section
variable {G:GTab (List AV)} {I K:Nat → Prop} {ρ ρ':PMap} {h h':FHeap} {w:World}
theorem HRel.rename (r:HRel G I K ρ h w) {π:Nat → Option Nat} (hπ:∀ b b' m,π b = some b' → ρ b = some m → ρ' b' = some m)
 (hh:∀ b' o',h' b' = some o' → ∃ b o,h b = some o ∧ π b = some b' ∧ o' = renObj π o) (hdom:∀ b' m,ρ' b' = some m → m.blk < w.heap.size):HRel G I K ρ' h' w:={
 live b' o' hb':=by
  obtain ⟨b,o,hb,hp,rfl⟩:=hh b' o' hb'
  obtain ⟨m,h1,h2,h3,h4⟩:=r.live b o hb
  exact ⟨m,hπ b b' m hp h1,h2,h3,ORel.ren hπ o h4⟩
 inj b1 b2 m1 m2 h1 h2 hm1 hm2 he:=by
  obtain ⟨o1,ho1⟩:=Option.isSome_iff_exists.1 h1
  obtain ⟨o2,ho2⟩:=Option.isSome_iff_exists.1 h2
  obtain ⟨c1,q1,hc1,hp1,_⟩:=hh b1 o1 ho1
  obtain ⟨c2,q2,hc2,hp2,_⟩:=hh b2 o2 ho2
  obtain ⟨n1,hn1,_⟩:=r.live c1 q1 hc1
  obtain ⟨n2,hn2,_⟩:=r.live c2 q2 hc2
  have e1:=hπ c1 b1 n1 hp1 hn1
  have e2:=hπ c2 b2 n2 hp2 hn2
  rw [hm1] at e1;rw [hm2] at e2
  cases e1;cases e2
  have:=r.inj c1 c2 _ _ (by simp [hc1]) (by simp [hc2]) hn1 hn2 he
  subst this
  rw [hp1] at hp2
  exact Option.some.inj hp2
 dom:=hdom
 imm:=r.imm
 kept:=r.kept
 apart:=r.apart
 glob:=r.glob}
theorem Ext.keepLess {K':Nat → Prop} {w w':World} (e:Ext I K w w') (hK:∀ c,K' c → K c):Ext I K' w w':=
 ⟨e.os,e.tape,e.output,e.size,fun c hc=>e.keep c (hc.imp id (hK c))⟩
/-! ### freezing -/
def frzP (m:Nat) (top:Bool) (d:AV → Option AV) (b:Nat) (v:AV):Option AV:=bif Nat.blt b m then (bif top then some v else none) else d v
mutual
def frzV (m:Nat) (top:Bool) (d:AV → Option AV):AV → Option AV
 | .ptr b i o=>frzP m top d b (.ptr b i o)
 | .slice b off len cap=>frzP m top d b (.slice b off len cap)
 | .map b=>frzP m top d b (.map b)
 | .yfn b=>bif top && Nat.blt b m then some (.yfn b) else none
 | .func fn fs cs=>match frzL m top d fs,frzL m top d cs with
  | some fs,some cs=>some (.func fn fs cs)
  | _,_=>none
 | .iface t x=>match frzV m top d x with
  | some x=>some (.iface t x)
  | none=>none
 | .agg cs=>match frzL m top d cs with
  | some cs=>some (.agg cs)
  | none=>none
 | .tuple cs=>match frzL m top d cs with
  | some cs=>some (.tuple cs)
  | none=>none
 | .iptr cs=>some (.iptr cs)
 | .islice rows cap=>some (.islice rows cap)
 | .imap ks vs bs clock=>some (.imap ks vs bs clock)
 | .iset ks=>some (.iset ks)
 | .junk=>some .junk
 | .bool b=>some (.bool b)
 | .int k n=>some (.int k n)
 | .str s=>some (.str s)
 | .nilptr=>some .nilptr
 | .nilslice=>some .nilslice
 | .nilmap=>some .nilmap
 | .nilfunc=>some .nilfunc
 | .nilifc=>some .nilifc
def frzL (m:Nat) (top:Bool) (d:AV → Option AV):List AV → Option (List AV)
 | []=>some []
 | v :: vs=>match frzV m top d v,frzL m top d vs with
  | some v,some vs=>some (v :: vs)
  | _,_=>none
end
def frzR (m:Nat) (d:AV → Option AV):List (List AV) → Option (List (List AV))
 | []=>some []
 | r :: rs=>match frzL m false d r,frzR m d rs with
  | some r,some rs=>some (r :: rs)
  | _,_=>none
def frzD (h:FHeap) (m:Nat):Nat → AV → Option AV
 | 0,_=>none
 | n + 1,.ptr b i o=>match h b with
  | some (.row _ rows)=>match rows[i]? with
   | some r=>match frzL m false (frzD h m n) (r.drop o) with
    | some cs=>some (.iptr cs)
    | none=>none
   | none=>none
  | _=>none
 | n + 1,.slice b off len cap=>match h b with
  | some (.row _ rows)=>bif Nat.ble (off + len) rows.length then
   match frzR m (frzD h m n) ((rows.drop off).take len) with
   | some rs=>some (.islice rs cap)
   | none=>none
   else none
  | _=>none
 | n + 1,.map b=>match h b with
  | some (.map ks vs bs cl)=>match frzL m false (frzD h m n) ks,frzL m false (frzD h m n) vs with
   | some ks,some vs=>some (.imap ks vs bs cl)
   | _,_=>none
  | some (.uset ks)=>some (.iset ks)
  | _=>none
 | _ + 1,_=>none
def Frozen (I:Nat → Prop) (ρ:PMap) (h:FHeap) (m:Nat):Nat → Prop:=fun c=>I c ∨ ∃ b o p,m ≤ b ∧ h b = some o ∧ ρ b = some p ∧ p.blk = c
def Reads (I':Nat → Prop) (I:Nat → Prop) (w:World) (ρ:PMap) (m:Nat) (d:AV → Option AV):Prop:=
 ∀ b v v' c,(v = .map b ∨ (∃ i o,v = .ptr b i o) ∨ ∃ off len cap,v = .slice b off len cap) → m ≤ b → d v = some v' → VRel I w ρ v c → VRel I' w noP v' c
def PMap.below (ρ:PMap) (m:Nat) (top:Bool):PMap:=fun b=>if top = true ∧ b < m then ρ b else none
theorem noRef_up {I I':Nat → Prop} {w:World} {ρ:PMap} (_:∀ c,I c → I' c) {v:AV} {c:Value} (h:VRel I' w noP v c):VRel I' w ρ v c:=
 VRel.mono (fun _ h=>h) (fun _ _=>rfl) v (fun _ _ h=>by simp [noP] at h) h
variable {I':Nat → Prop} {m:Nat} {top:Bool} {d:AV → Option AV}
mutual
theorem frzV_ok (hI:∀ c,I c → I' c) (hd:Reads I' I w ρ m d):∀ (v:AV) {v':AV} {c:Value},frzV m top d v = some v' → VRel I w ρ v c → VRel I' w (ρ.below m top) v' c
 | .ptr b i o,v',c,hf,hv=>by
  simp only [frzV,frzP] at hf
  rw [cond_eq_ite] at hf
  split at hf
  ·rename_i hb
   rw [cond_eq_ite] at hf
   split at hf
   case isFalse=>cases hf
   rename_i ht
   cases hf
   simp only [VRel] at hv ⊢
   obtain ⟨p,hp,rfl⟩:=hv
   exact ⟨p,by simp only [PMap.below];rw [if_pos ⟨ht,by simpa [Nat.blt_eq] using hb⟩];exact hp,rfl⟩
  ·rename_i hb
   exact noRef_up (I:=I) hI (hd b _ _ _ (.inr (.inl ⟨i,o,rfl⟩)) (by simpa [Nat.blt_eq] using hb) hf hv)
 | .slice b off len cap,v',c,hf,hv=>by
  simp only [frzV,frzP] at hf
  rw [cond_eq_ite] at hf
  split at hf
  ·rename_i hb
   rw [cond_eq_ite] at hf
   split at hf
   case isFalse=>cases hf
   rename_i ht
   cases hf
   simp only [VRel] at hv ⊢
   obtain ⟨a,cc,rfl,h1,h2,h3⟩:=hv
   refine ⟨a,cc,rfl,h1,h2,h3.imp id ?_⟩
   rintro ⟨p,hp,rfl,hr⟩
   exact ⟨p,by simp only [PMap.below];rw [if_pos ⟨ht,by simpa [Nat.blt_eq] using hb⟩];exact hp,rfl,hr⟩
  ·rename_i hb
   exact noRef_up (I:=I) hI (hd b _ _ _ (.inr (.inr ⟨off,len,cap,rfl⟩)) (by simpa [Nat.blt_eq] using hb) hf hv)
 | .map b,v',c,hf,hv=>by
  simp only [frzV,frzP] at hf
  rw [cond_eq_ite] at hf
  split at hf
  ·rename_i hb
   rw [cond_eq_ite] at hf
   split at hf
   case isFalse=>cases hf
   rename_i ht
   cases hf
   simp only [VRel] at hv ⊢
   obtain ⟨p,hp,rfl⟩:=hv
   exact ⟨p,by simp only [PMap.below];rw [if_pos ⟨ht,by simpa [Nat.blt_eq] using hb⟩];exact hp,rfl⟩
  ·rename_i hb
   exact noRef_up (I:=I) hI (hd b _ _ _ (.inl rfl) (by simpa [Nat.blt_eq] using hb) hf hv)
 | .yfn b,v',c,hf,hv=>by
  simp only [frzV] at hf
  rw [cond_eq_ite] at hf
  split at hf
  case isFalse=>cases hf
  rename_i hb
  cases hf
  simp only [Bool.and_eq_true,Nat.blt_eq] at hb
  simp only [VRel] at hv ⊢
  obtain ⟨p,hp,rfl⟩:=hv
  exact ⟨p,by simp only [PMap.below];rw [if_pos hb];exact hp,rfl⟩
 | .func fn fs cs,v',c,hf,hv=>by
  simp only [frzV] at hf
  split at hf
  case h_2=>cases hf
  rename_i fs' cs' h1 h2
  cases hf
  simp only [VRel] at hv ⊢
  obtain ⟨a,b,rfl,h3,h4⟩:=hv
  exact ⟨a,b,rfl,frzL_ok hI hd fs h1 h3,frzL_ok hI hd cs h2 h4⟩
 | .iface t x,v',c,hf,hv=>by
  simp only [frzV] at hf
  split at hf
  case h_2=>cases hf
  rename_i x' h1
  cases hf
  simp only [VRel] at hv ⊢
  obtain ⟨a,rfl,h3⟩:=hv
  exact ⟨a,rfl,frzV_ok hI hd x h1 h3⟩
 | .agg cs,v',c,hf,hv=>by
  simp only [frzV] at hf
  split at hf
  case h_2=>cases hf
  rename_i cs' h1
  cases hf
  simp only [VRel] at hv ⊢
  obtain ⟨a,rfl,h3⟩:=hv
  exact ⟨a,rfl,frzL_ok hI hd cs h1 h3⟩
 | .tuple cs,v',c,hf,hv=>by
  simp only [frzV] at hf
  split at hf
  case h_2=>cases hf
  rename_i cs' h1
  cases hf
  simp only [VRel] at hv ⊢
  obtain ⟨a,rfl,h3⟩:=hv
  exact ⟨a,rfl,frzL_ok hI hd cs h1 h3⟩
 | .iptr cs,v',c,hf,hv=>by
  simp only [frzV,Option.some.injEq] at hf;subst hf
  exact noRef_up (I:=I) hI (VRel.mono (ρ:=noP) (ρ':=noP) hI (fun _ _=>rfl) _ (fun _ _ h=>h) (by simpa only [VRel] using hv))
 | .islice rows cap,v',c,hf,hv=>by
  simp only [frzV,Option.some.injEq] at hf;subst hf
  exact noRef_up (I:=I) hI (VRel.mono (ρ:=noP) (ρ':=noP) hI (fun _ _=>rfl) _ (fun _ _ h=>h) (by simpa only [VRel] using hv))
 | .imap ks vs bs clock,v',c,hf,hv=>by
  simp only [frzV,Option.some.injEq] at hf;subst hf
  exact noRef_up (I:=I) hI (VRel.mono (ρ:=noP) (ρ':=noP) hI (fun _ _=>rfl) _ (fun _ _ h=>h) (by simpa only [VRel] using hv))
 | .iset ks,v',c,hf,hv=>by
  simp only [frzV,Option.some.injEq] at hf;subst hf
  exact noRef_up (I:=I) hI (VRel.mono (ρ:=noP) (ρ':=noP) hI (fun _ _=>rfl) _ (fun _ _ h=>h) (by simpa only [VRel] using hv))
 | .junk,v',c,hf,hv=>by simp only [frzV,Option.some.injEq] at hf;subst hf;simp [VRel]
 | .bool b,v',c,hf,hv=>by simp only [frzV,Option.some.injEq] at hf;subst hf;simpa [VRel] using hv
 | .int k n,v',c,hf,hv=>by simp only [frzV,Option.some.injEq] at hf;subst hf;simpa [VRel] using hv
 | .str s,v',c,hf,hv=>by simp only [frzV,Option.some.injEq] at hf;subst hf;simpa [VRel] using hv
 | .nilptr,v',c,hf,hv=>by simp only [frzV,Option.some.injEq] at hf;subst hf;simpa [VRel] using hv
 | .nilslice,v',c,hf,hv=>by simp only [frzV,Option.some.injEq] at hf;subst hf;simpa [VRel] using hv
 | .nilmap,v',c,hf,hv=>by simp only [frzV,Option.some.injEq] at hf;subst hf;simpa [VRel] using hv
 | .nilfunc,v',c,hf,hv=>by simp only [frzV,Option.some.injEq] at hf;subst hf;simpa [VRel] using hv
 | .nilifc,v',c,hf,hv=>by simp only [frzV,Option.some.injEq] at hf;subst hf;simpa [VRel] using hv
theorem frzL_ok (hI:∀ c,I c → I' c) (hd:Reads I' I w ρ m d):∀ (vs:List AV) {vs':List AV} {cs:List Value},frzL m top d vs = some vs' → VRels I w ρ vs cs → VRels I' w (ρ.below m top) vs' cs
 | [],vs',cs,hf,hv=>by
  simp only [frzL,Option.some.injEq] at hf;subst hf
  simpa [VRels] using hv
 | v :: vs,vs',cs,hf,hv=>by
  simp only [frzL] at hf
  split at hf
  case h_2=>cases hf
  rename_i v1 vs1 h1 h2
  cases hf
  simp only [VRels] at hv ⊢
  obtain ⟨c,cs',rfl,h3,h4⟩:=hv
  exact ⟨c,cs',rfl,frzV_ok hI hd v h1 h3,frzL_ok hI hd vs h2 h4⟩
end
theorem below_false (ρ:PMap) (m:Nat):ρ.below m false = noP:=by funext b;simp [PMap.below,noP]
theorem frzL_at (hI:∀ c,I c → I' c) (hd:Reads I' I w ρ m d):∀ (vs:List AV) {vs':List AV} {b off:Nat},frzL m false d vs = some vs' → VAt I w ρ vs b off → VAt I' w noP vs' b off
 | [],vs',b,off,hf,_=>by simp only [frzL,Option.some.injEq] at hf;subst hf;simp [VAt]
 | v :: vs,vs',b,off,hf,hv=>by
  simp only [frzL] at hf
  split at hf
  case h_2=>cases hf
  rename_i v1 vs1 h1 h2
  cases hf
  simp only [VAt] at hv ⊢
  obtain ⟨⟨c,hc,h3⟩,h4⟩:=hv
  have:=frzV_ok hI hd v h1 h3
  rw [below_false] at this
  exact ⟨⟨c,hc,this⟩,frzL_at hI hd vs h2 h4⟩
theorem frzL_length {m:Nat} {top:Bool} {d:AV → Option AV}:∀ {vs vs':List AV},frzL m top d vs = some vs' → vs'.length = vs.length
 | [],vs',hf=>by simp only [frzL,Option.some.injEq] at hf;subst hf;rfl
 | v :: vs,vs',hf=>by
  simp only [frzL] at hf
  split at hf
  case h_2=>cases hf
  rename_i v1 vs1 h1 h2
  cases hf
  simp [frzL_length h2]
theorem frzR_at {k:Nat} (hI:∀ c,I c → I' c) (hd:Reads I' I w ρ m d):∀ (rs:List (List AV)) {rs':List (List AV)} {b off:Nat},frzR m d rs = some rs' → VRows I w k ρ rs b off → VRows I' w k noP rs' b off
 | [],rs',b,off,hf,_=>by simp only [frzR,Option.some.injEq] at hf;subst hf;simp [VRows]
 | r :: rs,rs',b,off,hf,hv=>by
  simp only [frzR] at hf
  split at hf
  case h_2=>cases hf
  rename_i v1 vs1 h1 h2
  cases hf
  simp only [VRows] at hv ⊢
  obtain ⟨h3,h4,h5⟩:=hv
  exact ⟨by rw [frzL_length h1];exact h3,frzL_at hI hd r h1 h4,frzR_at hI hd rs h2 h5⟩
def frzT (m:Nat) (d:AV → Option AV):List (List AV) → Option (List (List AV))
 | []=>some []
 | r :: rs=>match frzL m true d r,frzT m d rs with
  | some r',some rs'=>some (r' :: rs')
  | _,_=>none
theorem frzL_atT (hI:∀ c,I c → I' c) (hd:Reads I' I w ρ m d):∀ (vs:List AV) {vs':List AV} {b off:Nat},frzL m true d vs = some vs' → VAt I w ρ vs b off → VAt I' w (ρ.below m true) vs' b off
 | [],vs',b,off,hf,_=>by simp only [frzL,Option.some.injEq] at hf;subst hf;simp [VAt]
 | v :: vs,vs',b,off,hf,hv=>by
  simp only [frzL] at hf
  split at hf
  case h_2=>cases hf
  rename_i v1 vs1 h1 h2
  cases hf
  simp only [VAt] at hv ⊢
  obtain ⟨⟨c,hc,h3⟩,h4⟩:=hv
  exact ⟨⟨c,hc,frzV_ok hI hd v h1 h3⟩,frzL_atT hI hd vs h2 h4⟩
theorem frzT_at {k:Nat} (hI:∀ c,I c → I' c) (hd:Reads I' I w ρ m d):∀ (rs:List (List AV)) {rs':List (List AV)} {b off:Nat},frzT m d rs = some rs' → VRows I w k ρ rs b off → VRows I' w k (ρ.below m true) rs' b off
 | [],rs',b,off,hf,_=>by simp only [frzT,Option.some.injEq] at hf;subst hf;simp [VRows]
 | r :: rs,rs',b,off,hf,hv=>by
  simp only [frzT] at hf
  split at hf
  case h_2=>cases hf
  rename_i v1 vs1 h1 h2
  cases hf
  simp only [VRows] at hv ⊢
  obtain ⟨h3,h4,h5⟩:=hv
  exact ⟨by rw [frzL_length h1];exact h3,frzL_atT hI hd r h1 h4,frzT_at hI hd rs h2 h5⟩
theorem frzT_length {m:Nat} {d:AV → Option AV}:∀ {rs rs':List (List AV)},frzT m d rs = some rs' → rs'.length = rs.length
 | [],rs',hf=>by simp only [frzT,Option.some.injEq] at hf;subst hf;rfl
 | r :: rs,rs',hf=>by
  simp only [frzT] at hf
  split at hf
  case h_2=>cases hf
  rename_i v1 vs1 h1 h2
  cases hf
  simp [frzT_length h2]
theorem frzR_length {m:Nat} {d:AV → Option AV}:∀ {rs rs':List (List AV)},frzR m d rs = some rs' → rs'.length = rs.length
 | [],rs',hf=>by simp only [frzR,Option.some.injEq] at hf;subst hf;rfl
 | r :: rs,rs',hf=>by
  simp only [frzR] at hf
  split at hf
  case h_2=>cases hf
  rename_i v1 vs1 h1 h2
  cases hf
  simp [frzR_length h2]
end
end Go.Ax
/- AxFrz: a result that is frozen, with the heap that is left. -/
namespace Go.Ax
section
variable {G:GTab (List AV)} {I K:Nat → Prop} {ρ:PMap} {h:FHeap} {w:World} {m:Nat}
theorem frzD_reads (r:HRel G I K ρ h w):∀ n,Reads (Frozen I ρ h m) I w ρ m (frzD h m n)
 | 0=>by intro b v v' c _ _ hd _;simp [frzD] at hd
 | n + 1=>by
  have ih:=frzD_reads r n
  have hI:∀ c,I c → Frozen I ρ h m c:=fun c hc=>.inl hc
  intro b v v' c hv hb hd hr
  rcases hv with rfl|⟨i,o,rfl⟩|⟨off,len,cap,rfl⟩
  ·simp only [frzD] at hd
   split at hd
   case h_3=>cases hd
   case h_2=>
    rename_i ks hhb
    cases hd
    simp only [VRel] at hr ⊢
    obtain ⟨p,hp,rfl⟩:=hr
    obtain ⟨p',hp',_,_,es,cl,he,hs⟩:=r.live b _ hhb
    obtain rfl:p = p':=Option.some.inj (hp.symm.trans hp')
    exact ⟨p.blk,es,cl,rfl,.inr ⟨b,_,p,hb,hhb,hp,rfl⟩,he,hs⟩
   rename_i ks vs bs cl hhb
   split at hd
   case h_2=>cases hd
   rename_i ks' vs' h1 h2
   cases hd
   simp only [VRel] at hr ⊢
   obtain ⟨p,hp,rfl⟩:=hr
   obtain ⟨p',hp',_,_,es,he,hk,hvv,hbs⟩:=r.live b _ hhb
   obtain rfl:p = p':=Option.some.inj (hp.symm.trans hp')
   have e1:=frzL_ok hI ih ks h1 hk
   have e2:=frzL_ok hI ih vs h2 hvv
   rw [below_false] at e1 e2
   exact ⟨p.blk,es,rfl,.inr ⟨b,_,p,hb,hhb,hp,rfl⟩,he,e1,e2,hbs⟩
  ·simp only [frzD] at hd
   split at hd
   case h_2=>cases hd
   rename_i k rows hhb
   split at hd
   case h_2=>cases hd
   rename_i rr hrr
   split at hd
   case h_2=>cases hd
   rename_i cs h1
   cases hd
   simp only [VRel] at hr ⊢
   obtain ⟨p,hp,rfl⟩:=hr
   obtain ⟨p',hp',_,_,hk,_,_,hrows⟩:=r.live b _ hhb
   obtain rfl:p = p':=Option.some.inj (hp.symm.trans hp')
   obtain ⟨hlen,hat⟩:=VRows.get i hrows hrr
   have hat':VAt I w ρ (rr.drop o) p.blk (p.off + i * k + o):=by
    by_cases ho:o ≤ rr.length
    ·exact VAt.drop o ho hat
    ·rw [List.drop_eq_nil_of_le (by omega)];simp [VAt]
   rw [hk]
   exact ⟨p.blk,_,rfl,.inr ⟨b,_,p,hb,hhb,hp,rfl⟩,frzL_at hI ih _ h1 hat'⟩
  ·simp only [frzD] at hd
   split at hd
   case h_2=>cases hd
   rename_i k rows hhb
   rw [cond_eq_ite] at hd
   split at hd
   case isFalse=>cases hd
   rename_i hfit
   rw [Nat.ble_eq] at hfit
   split at hd
   case h_2=>cases hd
   rename_i rs h1
   cases hd
   have hlen:rs.length = len:=by rw [frzR_length h1];simp;omega
   simp only [VRel] at hr ⊢
   obtain ⟨a,cc,rfl,hle,hcap,hor⟩:=hr
   obtain ⟨p',hp',_,_,hk,_,_,hrows⟩:=r.live b _ hhb
   refine ⟨a,cc,k,by rw [hlen],by rw [hlen];exact hle,hcap,?_⟩
   rcases hor with rfl|⟨p,hp,rfl,_⟩
   ·left;exact List.length_eq_zero_iff.1 (by omega)
   ·right
    obtain rfl:p = p':=Option.some.inj (hp.symm.trans hp')
    refine ⟨rfl,.inr ⟨b,_,p,hb,hhb,hp,rfl⟩,?_⟩
    have:=frzR_at hI ih _ h1 (VRows.take len (VRows.drop off (by omega) hrows))
    rw [hk];exact this
theorem HRel.grow {I':Nat → Prop} (r:HRel G I K ρ h w) (hI:∀ c,I c → I' c) (hlive:∀ b o m,h b = some o → ρ b = some m → ¬ I' m.blk) (hK:∀ c,I' c → ¬ K c) (hsz:∀ c,I' c → c < w.heap.size) :
 HRel G I' K ρ h w:={
 live b o hb:=by
  obtain ⟨m,h1,h2,h3,h4⟩:=r.live b o hb
  exact ⟨m,h1,hlive b o m hb h1,h3,ORel.mono o hI (fun _ _=>rfl) (fun _ _ h=>h) rfl h4⟩
 inj:=r.inj
 dom:=r.dom
 imm:=hsz
 kept:=r.kept
 apart:=hK
 glob g cs hg:=⟨hI _ (r.glob g cs hg).1,VAt.mono hI (fun _ _=>rfl) cs (fun _ _ h=>h) rfl (r.glob g cs hg).2⟩}
def piBelow (m:Nat):Nat → Option Nat:=fun b=>bif Nat.blt b m then some b else none
theorem frozen_ok (r:HRel G I K ρ h w) {n:Nat} {v v':AV} {c:Value} (hf:frzV m true (frzD h m n) v = some v') (hv:VRel I w ρ v c) {h':FHeap}
 (hh:∀ b o',h' b = some o' → ∃ o,b < m ∧ h b = some o ∧ o' = renObj (piBelow m) o) :
 HRel G (Frozen I ρ h m) K (ρ.below m true) h' w ∧ VRel (Frozen I ρ h m) w (ρ.below m true) v' c:=by
 have hI:∀ c,I c → Frozen I ρ h m c:=fun c hc=>.inl hc
 refine ⟨?_,frzV_ok hI (frzD_reads r n) v hf hv⟩
 have r0:HRel G I K ρ (fun b=>if b < m then h b else none) w:=r.fewer (fun b o hb=>by
  split at hb
  ·exact hb
  ·cases hb)
 have r1:HRel G (Frozen I ρ h m) K ρ (fun b=>if b < m then h b else none) w:=by
  refine r0.grow hI ?_ ?_ ?_
  ·intro b o p hb hp
   split at hb
   case isFalse=>cases hb
   rename_i hlt
   obtain ⟨p',hp',hnI,_,_⟩:=r.live b o hb
   obtain rfl:p = p':=Option.some.inj (hp.symm.trans hp')
   rintro (hc|⟨b',o',q,hb',ho',hq,he⟩)
   ·exact hnI hc
   ·have:=r.inj b b' p q (by simp [hb]) (by simp [ho']) hp hq he.symm
    omega
  ·rintro c (hc|⟨b',o',q,hb',ho',hq,rfl⟩)
   ·exact r.apart c hc
   ·obtain ⟨q',hq',_,hnK,_⟩:=r.live b' o' ho'
    obtain rfl:q = q':=Option.some.inj (hq.symm.trans hq')
    exact hnK
  ·rintro c (hc|⟨b',o',q,hb',ho',hq,rfl⟩)
   ·exact r.imm c hc
   ·exact r.dom b' q hq
 refine r1.rename (π:=piBelow m) ?_ ?_ ?_
 ·intro b b' p hp hb
  simp only [piBelow] at hp
  rw [cond_eq_ite] at hp
  split at hp
  case isFalse=>cases hp
  rename_i hlt
  cases hp
  simp only [PMap.below]
  rw [if_pos ⟨trivial,by simpa [Nat.blt_eq] using hlt⟩];exact hb
 ·intro b o' hb
  obtain ⟨o,hlt,ho,rfl⟩:=hh b o' hb
  refine ⟨b,o,by rw [if_pos hlt];exact ho,?_,rfl⟩
  simp only [piBelow]
  rw [cond_eq_ite,if_pos (by simpa [Nat.blt_eq] using hlt)]
 ·intro b p hb
  simp only [PMap.below] at hb
  split at hb
  ·exact r.dom b p hb
  ·cases hb
end
end Go.Ax
