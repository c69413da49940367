/- AxCore: abstract values, abstract heap objects, and what they say of a world. No condition: definitions and their monotonicity. -/
import Derived.Orders
import Derived.Scope
import Derived.Laws.Sem
import Derived.Laws.CopyRow
import GoSem.Extern.Table
import Derived.Laws.Strings
import GoSem.Builtin.Append
import GoSem.Builtin.Len
import GoSem.Builtin.Cap
import GoSem.Builtin.Min
import GoSem.Builtin.Max
import GoSem.Builtin.Copy
import GoSem.Builtin.Clear
import GoSem.Instr.MapUpdate
import GoSem.Instr.MapEntry
import GoSem.Builtin.Delete
import GoSem.Instr.Range
import GoSem.Instr.Next
import GoSem.Instr.Entry
import GoSem.Dispatch
set_option linter.unusedSimpArgs false
set_option linter.unusedVariables false
namespace Go.Ax
theorem c10:type_of% @List.length_map:=@List.length_map
theorem c11:type_of% @Bool.and_eq_true:=@Bool.and_eq_true
theorem e12:type_of% @List.mem_of_getElem?:=@List.mem_of_getElem?
theorem e4r:type_of% @List.map_cons:=@List.map_cons
theorem e4s:type_of% @List.append_assoc:=@List.append_assoc
theorem e4t:type_of% @List.append_nil:=@List.append_nil
theorem e4v:type_of% @Option.isSome_iff_exists:=@Option.isSome_iff_exists
theorem e5j:type_of% @List.map_nil:=@List.map_nil
theorem e5k:type_of% @List.getElem?_eq_some_iff:=@List.getElem?_eq_some_iff
theorem e5l:type_of% @List.length_cons:=@List.length_cons
theorem e5m:type_of% @List.nil_append:=@List.nil_append
theorem e5n:type_of% @List.getElem?_map:=@List.getElem?_map
theorem e5o:type_of% @List.take_of_length_le:=@List.take_of_length_le
theorem e5p:type_of% @Option.map_some:=@Option.map_some
theorem e5q:type_of% @Nat.zero_le:=@Nat.zero_le
theorem e5r:type_of% @List.length_nil:=@List.length_nil
theorem e5s:type_of% @if_neg:=@if_neg
theorem e6j:type_of% @List.getElem?_append_left:=@List.getElem?_append_left
theorem e6k:type_of% @List.length_append:=@List.length_append
theorem e6l:type_of% @decide_eq_true_eq:=@decide_eq_true_eq
theorem e6m:type_of% @cond_true:=@cond_true
theorem e6n:type_of% @List.getElem?_eq_none:=@List.getElem?_eq_none
theorem e6o:type_of% @Nat.le_refl:=@Nat.le_refl
theorem e6p:type_of% @List.getElem?_append_right:=@List.getElem?_append_right
theorem e6q:type_of% @if_pos:=@if_pos
theorem e6r:type_of% @List.map_append:=@List.map_append
theorem e6s:type_of% @List.getElem?_mapIdx:=@List.getElem?_mapIdx
theorem e6t:type_of% @Array.length_toList:=@Array.length_toList
theorem e6u:type_of% @Nat.blt_eq:=@Nat.blt_eq
theorem e6v:type_of% @List.mem_cons:=@List.mem_cons
theorem e6w:type_of% @cond_false:=@cond_false
theorem e6x:type_of% @List.all_eq_true:=@List.all_eq_true
theorem e6y:type_of% @Array.getD_eq_getD_getElem?:=@Array.getD_eq_getD_getElem?
theorem e6z:type_of% @List.mem_singleton:=@List.mem_singleton
theorem e70:type_of% @List.getElem?_set:=@List.getElem?_set
theorem e71:type_of% @List.take_zero:=@List.take_zero
theorem e7g:type_of% @List.getElem?_cons_succ:=@List.getElem?_cons_succ
theorem e7h:type_of% @List.mem_append:=@List.mem_append
theorem e7i:type_of% @Array.getElem?_setIfInBounds:=@Array.getElem?_setIfInBounds
theorem e7j:type_of% @Array.getElem?_eq_some_iff:=@Array.getElem?_eq_some_iff
theorem e7k:type_of% @List.map_congr_left:=@List.map_congr_left
theorem e7l:type_of% @Nat.zero_add:=@Nat.zero_add
theorem e7m:type_of% @List.getElem?_cons_zero:=@List.getElem?_cons_zero
theorem e7n:type_of% @List.length_range:=@List.length_range
theorem e7o:type_of% @decide_eq_true:=@decide_eq_true
theorem e7p:type_of% @List.cons_append:=@List.cons_append
theorem e7q:type_of% @List.eq_of_mem_replicate:=@List.eq_of_mem_replicate
theorem e7r:type_of% @beq_eq_false_iff_ne:=@beq_eq_false_iff_ne
theorem e7s:type_of% @List.ext_getElem?:=@List.ext_getElem?
theorem e7t:type_of% @List.mem_map:=@List.mem_map
theorem e7u:type_of% @List.length_take:=@List.length_take
theorem e7v:type_of% @Option.getD_some:=@Option.getD_some
theorem e7w:type_of% @Bool.false_eq_true:=@Bool.false_eq_true
theorem e7x:type_of% @List.getD_eq_getElem?_getD:=@List.getD_eq_getElem?_getD
theorem e7y:type_of% @List.length_set:=@List.length_set
theorem e7z:type_of% @Bool.not_eq_true':=@Bool.not_eq_true'
theorem e80:type_of% @List.flatten_cons:=@List.flatten_cons
theorem e81:type_of% @List.mem_map_of_mem:=@List.mem_map_of_mem
theorem e82:type_of% @List.take_length:=@List.take_length
theorem e83:type_of% @List.getElem?_toArray:=@List.getElem?_toArray
theorem e84:type_of% @Nat.lt_or_ge:=@Nat.lt_or_ge
theorem e85:type_of% @List.getElem?_replicate:=@List.getElem?_replicate
theorem e86:type_of% @List.drop_zero:=@List.drop_zero
theorem e8f:type_of% @if_true:=@if_true
theorem e8g:type_of% @Nat.mul_le_mul_right:=@Nat.mul_le_mul_right
theorem e8h:type_of% @Bool.and_self:=@Bool.and_self
theorem e8i:type_of% @List.idxOf?_cons:=@List.idxOf?_cons
theorem e8j:type_of% @Nat.eq_of_beq_eq_true:=@Nat.eq_of_beq_eq_true
theorem e8k:type_of% @List.mem_iff_getElem?:=@List.mem_iff_getElem?
theorem e8m:type_of% @Nat.ble_eq:=@Nat.ble_eq
theorem e8n:type_of% @Option.bind_some:=@Option.bind_some
theorem e8o:type_of% @List.append_eq_nil_iff:=@List.append_eq_nil_iff
theorem e8p:type_of% @Bool.true_and:=@Bool.true_and
theorem e8q:type_of% @Nat.add_mul:=@Nat.add_mul
theorem e8r:type_of% @Array.getElem?_toList:=@Array.getElem?_toList
theorem e8s:type_of% @List.replicate_succ:=@List.replicate_succ
theorem e8t:type_of% @List.nodup_cons:=@List.nodup_cons
theorem e8v:type_of% @List.getElem?_range:=@List.getElem?_range
theorem e8w:type_of% @Array.toList_map:=@Array.toList_map
theorem e8x:type_of% @Option.join_some:=@Option.join_some
theorem e8y:type_of% @List.mem_range:=@List.mem_range
theorem e9b:type_of% @Nat.add_sub_cancel_left:=@Nat.add_sub_cancel_left
theorem e9c:type_of% @of_eq_true:=@of_eq_true
theorem e9d:type_of% @beq_iff_eq:=@beq_iff_eq
theorem e9e:type_of% @decide_eq_false:=@decide_eq_false
theorem e9f:type_of% @List.mem_or_eq_of_mem_set:=@List.mem_or_eq_of_mem_set
theorem e9g:type_of% @List.map_map:=@List.map_map
theorem e9h:type_of% @Array.toList_push:=@Array.toList_push
theorem e9i:type_of% @List.getElem?_take:=@List.getElem?_take
theorem e9o:type_of% @Bool.or_eq_true:=@Bool.or_eq_true
theorem e9t:type_of% @Bool.not_true:=@Bool.not_true
theorem e9u:type_of% @List.mem_filter:=@List.mem_filter
theorem e9v:type_of% @List.drop_eq_nil_of_le:=@List.drop_eq_nil_of_le
theorem e9w:type_of% @Array.ext':=@Array.ext'
theorem e9x:type_of% @Array.getElem?_push:=@Array.getElem?_push
theorem e9y:type_of% @decide_true:=@decide_true
theorem e9z:type_of% @if_false:=@if_false
theorem f00:type_of% @List.take_append_drop:=@List.take_append_drop
theorem f01:type_of% @List.range_succ:=@List.range_succ
theorem f02:type_of% @List.mem_cons_of_mem:=@List.mem_cons_of_mem
theorem f03:type_of% @Nat.add_zero:=@Nat.add_zero
theorem f04:type_of% @Bool.eq_iff_iff:=@Bool.eq_iff_iff
theorem f05:type_of% @Ne.symm:=@Ne.symm
theorem f08:type_of% @Nat.beq_eq:=@Nat.beq_eq
theorem f09:type_of% @List.map_set:=@List.map_set
theorem f0a:type_of% @Nat.succ_mul:=@Nat.succ_mul
theorem z9e{α:Type}{l:List α}{i:Nat}(h:i<l.length):l[i]?=some l[i]:=List.getElem?_eq_getElem h
theorem z9o{α:Type}{a b:α}(h:some a=some b):a=b:=Option.some.inj h
inductive AV where
 |junk
 |bool (b:Bool)
 |int (k:IntKind)(n:Int)
 |str (s:List UInt8)
 |nilptr
 |nilslice
 |nilmap
 |nilfunc
 |nilifc
 |ptr (b i o:Nat)
 |iptr (cells:List AV)
 |slice (b off len:Nat)(cap:Option Nat)
 |islice (aa:List (List AV))(cap:Option Nat)
 |map (b:Nat)
 |imap (ks vs:List AV)(bs:List Nat)(bd:Nat)
 |iset (ks:List Int)
 |yfn (b:Nat)
 |func (fn:Fn)(first eE:List AV)
 |iface (t:TypeId)(v:AV)
 |agg (cells:List AV)
 |tuple (vs:List AV)
 deriving Inhabited
structure Pl where
 blk:Nat
 off:Nat
 k:Nat
 room:Nat
abbrev PMap:=Nat→Option Pl
def noP:PMap:=λ_=>none
def USet(ks:List Int)(es:Array MapEntry)(cl:Nat):Prop:=(es.toList.map (·.key)).Perm (ks.map (Value.int .i64))∧(∀e∈es.toList,e.val = .bool true)∧ks.Nodup∧(es.toList.map (·.born)).Nodup∧∀e∈es.toList,e.born<cl
mutual
def VRel(I:Nat→Prop)(w:World):PMap→AV→Value→Prop
 |_,.junk,_=>True
 |_,.bool b,v=>v = .bool b
 |_,.int k n,v=>v = .int k n
 |_,.str s,v=>∃t:ByteArray,v = .string t∧t.data.toList=s
 |_,.nilptr,v=>v = .pointer none
 |_,.nilslice,v=>v = .slice none 0 0
 |_,.nilmap,v=>v = .map none
 |_,.nilfunc,v=>v = .nilFunc
 |_,.nilifc,v=>v = .nilIface
 |ρ,.ptr b i o,v=>∃m,ρ b=some m∧v = .pointer (some ⟨m.blk,m.off+i*m.k+o,none⟩)
 |_,.iptr cs,v=>∃c off,v = .pointer (some ⟨c,off,none⟩)∧I c∧VAt I w noP cs c off
 |ρ,.slice b off len cap,v=>∃a c,v = .slice (some a) len c∧len≤c∧(∀n,cap=some n→c=n)∧
  (c=0∨∃m,ρ b=some m∧a=⟨m.blk,m.off+off*m.k,none⟩∧m.off+(off+c)*m.k≤m.room)
 |_,.islice aa cap,v=>∃a c k,v = .slice (some a) aa.length c∧aa.length≤c∧(∀n,cap=some n→c=n)∧
  (aa=[]∨(a.spot=none∧I a.block∧VRows I w k noP aa a.block a.off))
 |ρ,.map b,v=>∃m,ρ b=some m∧v = .map (some m.blk)
 |_,.imap ks vs bs bd,v=>∃c es,v = .map (some c)∧I c∧w.heap[c]?=some (.map es bd)∧
  VRels I w noP ks (es.toList.map (·.key))∧VRels I w noP vs (es.toList.map (·.val))∧es.toList.map (·.born)=bs
 |_,.iset ks,v=>∃c es cl,v = .map (some c)∧I c∧w.heap[c]?=some (.map es cl)∧USet ks es cl
 |ρ,.yfn b,v=>∃m,ρ b=some m∧v = .func (.yield m.blk) #[] #[]
 |ρ,.func fn fs cs,v=>∃bT aF:Array Value,v = .func fn bT aF∧VRels I w ρ fs bT.toList∧VRels I w ρ cs aF.toList
 |ρ,.iface t x,v=>∃x',v = .iface t x'∧VRel I w ρ x x'
 |ρ,.agg cs,v=>∃aF:Array Value,v = .agg aF∧VRels I w ρ cs aF.toList
 |ρ,.tuple cs,v=>∃aF:Array Value,v = .tuple aF∧VRels I w ρ cs aF.toList
def VRels(I:Nat→Prop)(w:World):PMap→List AV→List Value→Prop
 |_,[],l=>l=[]
 |ρ,v::vs,l=>∃c cs,l=c::cs∧VRel I w ρ v c∧VRels I w ρ vs cs
def VAt(I:Nat→Prop)(w:World):PMap→List AV→Nat→Nat→Prop
 |_,[],_,_=>True
 |ρ,v::vs,b,off=>(∃c,w.cell? ⟨b,off,none⟩=some c∧VRel I w ρ v c)∧VAt I w ρ vs b (off+1)
def VRows(I:Nat→Prop)(w:World)(k:Nat):PMap→List (List AV)→Nat→Nat→Prop
 |_,[],_,_=>True
 |ρ,r::rs,b,off=>r.length=k∧VAt I w ρ r b off∧VRows I w k ρ rs b (off+k)
end
theorem b37{w w':World}{b o:Nat}(h:w'.heap[b]?=w.heap[b]?):w'.cell? ⟨b,o,none⟩=w.cell? ⟨b,o,none⟩:=by simp[World.cell?,h]
section
variable {I I':Nat→Prop}{w w':World}
mutual
theorem VRel.mono(hI:∀c,I c→I' c)(hw:∀c,I c→w'.heap[c]?=w.heap[c]?) :
 ∀{ρ ρ':PMap} (v:AV) {c:Value},(∀b m,ρ b=some m→ρ' b=some m)→VRel I w ρ v c→VRel I' w' ρ' v c
 |ρ,ρ',v,c,hρ,h=>by
  cases v with
  |junk=>simp[VRel]
  |bool b=>simpa[VRel]using h
  |int k n=>simpa[VRel]using h
  |str s=>simpa[VRel]using h
  |nilptr=>simpa[VRel]using h
  |nilslice=>simpa[VRel]using h
  |nilmap=>simpa[VRel]using h
  |nilfunc=>simpa[VRel]using h
  |nilifc=>simpa[VRel]using h
  |ptr b i o=>simp only[VRel]at h⊢;obtain⟨m,hm,rfl⟩:=h;exact⟨m,hρ b m hm,rfl⟩
  |iptr cs=>simp only[VRel]at h⊢;obtain⟨b,off,rfl,hb,h⟩:=h;exact⟨b,off,rfl,hI _ hb,VAt.mono hI hw cs (λ_ _ h=>h) (hw _ hb) h⟩
  |slice b off len cap=>
   simp only[VRel]at h⊢;obtain⟨a,n,rfl,h1,h2,h3⟩:=h;refine⟨a,n,rfl,h1,h2,h3.imp id ?_⟩
   rintro⟨m,hm,rfl,hr⟩
   exact⟨m,hρ b m hm,rfl,hr⟩
  |islice aa cap=>
   simp only[VRel]at h⊢;obtain⟨a,n,k,rfl,h1,h2,h3⟩:=h;refine⟨a,n,k,rfl,h1,h2,h3.imp id ?_⟩
   rintro⟨hs,hb,h⟩
   exact⟨hs,hI _ hb,VRows.mono hI hw aa (λ_ _ h=>h) (hw _ hb) h⟩
  |map b=>simp only[VRel]at h⊢;obtain⟨m,hm,rfl⟩:=h;exact⟨m,hρ b m hm,rfl⟩
  |imap ks vs bs bd=>simp only[VRel]at h⊢;obtain⟨b,es,rfl,hb,he,h1,h2,h3⟩:=h;exact⟨b,es,rfl,hI _ hb,by rw[hw _ hb,he],VRels.mono hI hw ks (λ_ _ h=>h) h1,VRels.mono hI hw vs (λ_ _ h=>h) h2,h3⟩
  |iset ks=>simp only[VRel]at h⊢;obtain⟨b,es,cl,rfl,hb,he,h1⟩:=h;exact⟨b,es,cl,rfl,hI _ hb,by rw[hw _ hb,he],h1⟩
  |yfn b=>simp only[VRel]at h⊢;obtain⟨m,hm,rfl⟩:=h;exact⟨m,hρ b m hm,rfl⟩
  |func fn fs cs=>simp only[VRel]at h⊢;obtain⟨bT,aF,rfl,h1,h2⟩:=h;exact⟨bT,aF,rfl,VRels.mono hI hw fs hρ h1,VRels.mono hI hw cs hρ h2⟩
  |iface t x=>simp only[VRel]at h⊢;obtain⟨x',rfl,h⟩:=h;exact⟨x',rfl,VRel.mono hI hw x hρ h⟩
  |agg cs=>simp only[VRel]at h⊢;obtain⟨aF,rfl,h⟩:=h;exact⟨aF,rfl,VRels.mono hI hw cs hρ h⟩
  |tuple cs=>simp only[VRel]at h⊢;obtain⟨aF,rfl,h⟩:=h;exact⟨aF,rfl,VRels.mono hI hw cs hρ h⟩
theorem VRels.mono(hI:∀c,I c→I' c)(hw:∀c,I c→w'.heap[c]?=w.heap[c]?) :
 ∀{ρ ρ':PMap} (vs:List AV) {cs:List Value},(∀b m,ρ b=some m→ρ' b=some m)→VRels I w ρ vs cs→VRels I' w' ρ' vs cs
 |ρ,ρ',[],cs,hρ,h=>by simpa[VRels]using h
 |ρ,ρ',v::vs,cs,hρ,h=>by simp only[VRels]at h⊢;obtain⟨c,aF,rfl,h1,h2⟩:=h;exact⟨c,aF,rfl,VRel.mono hI hw v hρ h1,VRels.mono hI hw vs hρ h2⟩
theorem VAt.mono(hI:∀c,I c→I' c)(hw:∀c,I c→w'.heap[c]?=w.heap[c]?) :
 ∀{ρ ρ':PMap} (vs:List AV) {b off:Nat},(∀b m,ρ b=some m→ρ' b=some m)→w'.heap[b]?=w.heap[b]?→VAt I w ρ vs b off→VAt I' w' ρ' vs b off
 |ρ,ρ',[],b,off,hρ,hb,h=>by simp[VAt]
 |ρ,ρ',v::vs,b,off,hρ,hb,h=>by simp only[VAt]at h⊢;obtain⟨⟨c,hc,h1⟩,h2⟩:=h;exact⟨⟨c,by rw[b37 hb,hc],VRel.mono hI hw v hρ h1⟩,VAt.mono hI hw vs hρ hb h2⟩
theorem VRows.mono{k:Nat}(hI:∀c,I c→I' c)(hw:∀c,I c→w'.heap[c]?=w.heap[c]?) :
 ∀{ρ ρ':PMap} (rs:List (List AV)) {b off:Nat},(∀b m,ρ b=some m→ρ' b=some m)→w'.heap[b]?=w.heap[b]?→VRows I w k ρ rs b off→VRows I' w' k ρ' rs b off
 |ρ,ρ',[],b,off,hρ,hb,h=>by simp[VRows]
 |ρ,ρ',r::rs,b,off,hρ,hb,h=>by simp only[VRows]at h⊢;obtain⟨h0,h1,h2⟩:=h;exact⟨h0,VAt.mono hI hw r hρ hb h1,VRows.mono hI hw rs hρ hb h2⟩
end
end
end Go.Ax
/- AxRel: abstract heaps against worlds; what a step may change; renaming of block numbers. -/
namespace Go.Ax
inductive YSt where
 |ready
 |busy
 |done (id:Option Nat)
 deriving Inhabited,DecidableEq
structure RInfo where
 N:Nat
 ps:List Nat
 asg:Code
 body:Code
 fid:Nat
structure GTab(α:Type) where
 glob:Nat→Option α
 rnd:Nat→Option RInfo
instance {α:Type}:CoeFun (GTab α) (λ_=>Nat→Option α):=⟨GTab.glob⟩
def b3k:Code→Bool
 |.rangeFunc _ _ _ _=>false
 |.seq a b=>b3k a&&b3k b
 |.cond _ a b=>b3k a&&b3k b
 |.block _ b=>b3k b
 |.loop b=>b3k b
 |.scope b=>b3k b
 |_=>true
def c1q:Option Nat→Code
 |none=>.ret
 |some id=>.exit id
inductive AObj where
 |row (k:Nat)(aa:List (List AV))
 |map (ks vs:List AV)(bs:List Nat)(bd:Nat)
 |siter (s:List UInt8)(pos:Nat)
 |uset (ks:List Int)
 |miter (ks b7:List Int)(cD:Option (Option Int))
 |yloop (y:Nat)(F:List (Nat×AV))(st:YSt)
 deriving Inhabited
def b7o:List (Nat×AV)→Nat→AV
 | [],_=>.junk
 |(s,v)::r,t=>bif Nat.beq s t then v else b7o r t
def f06(G:GTab (List AV))(I:Nat→Prop)(w:World)(ρ:PMap)(l:Nat)(y:Nat)(F:List (Nat×AV))(st:YSt):Prop:=
 ∃(ri:RInfo) (r:Loop),G.rnd y=some ri∧w.heap[l]?=some (.loop r)∧r.tmps.size=ri.N∧r.params.toList=ri.ps∧r.assign=ri.asg∧r.body=ri.body∧(∀s,VRel I w ρ (b7o F s) (r.tmps.getD s undef))∧
  (match st with
   |.ready=>r.state = .ready∧r.pending=none
   |.busy=>r.state = .busy
   |.done j=>r.state = .done∧r.pending=some (c1q j))
def f07(es:Array MapEntry)(seen:Array Nat)(b7:List Int):Prop:=∃cg:List MapEntry,(∀e∈cg,e∈es.toList)∧cg.map (·.born)=seen.toList∧cg.map (·.key)=b7.map (Value.int .i64)
abbrev FHeap:=Nat→Option AObj
def ORel(G:GTab (List AV))(I:Nat→Prop)(w:World)(ρ:PMap)(m:Pl):AObj→Prop
 |.row k aa=>m.k=k∧0<k∧(∃bD e,w.heap[m.blk]?=some (.cells bD e (0,0))∧bD.size=m.room∧m.off+aa.length*k≤m.room)∧VRows I w k ρ aa m.blk m.off
 |.map ks vs bs bd=>∃es,w.heap[m.blk]?=some (.map es bd)∧VRels I w ρ ks (es.toList.map (·.key))∧VRels I w ρ vs (es.toList.map (·.val))∧es.toList.map (·.born)=bs
 |.siter s pos=>m.off=0∧∃t,w.heap[m.blk]?=some (.stringIter t pos)∧t.data.toList=s
 |.uset ks=>∃es cl,w.heap[m.blk]?=some (.map es cl)∧USet ks es cl
 |.miter ks b7 _=>m.off=0∧((ks=[]∧b7=[]∧w.heap[m.blk]?=some (.mapIter none 0 #[] 0))∨
  ∃c es cl seen,I c∧w.heap[c]?=some (.map es cl)∧USet ks es cl∧w.heap[m.blk]?=some (.mapIter (some c) cl seen cl)∧f07 es seen b7)
 |.yloop y F st=>f06 G I w ρ m.blk y F st
structure HRel(G:GTab (List AV))(I K:Nat→Prop)(ρ:PMap)(h:FHeap)(w:World):Prop where
 live:∀b o,h b=some o→∃m,ρ b=some m∧¬I m.blk∧¬K m.blk∧ORel G I w ρ m o
 inj:∀b b' m m',(h b).isSome→(h b').isSome→ρ b=some m→ρ b'=some m'→m.blk=m'.blk→b=b'
 dom:∀b m,ρ b=some m→m.blk<w.heap.size
 imm:∀c,I c→c<w.heap.size
 kept:∀c,K c→c<w.heap.size
 apart:∀c,I c→¬K c
 glob:∀g cs,G g=some cs→I g∧VAt I w noP cs g 0
structure Ext(I K:Nat→Prop)(w w':World):Prop where
 os:w'.os=w.os
 tape:w'.tape=w.tape
 output:w'.output=w.output
 size:w.heap.size≤w'.heap.size
 keep:∀c,I c∨K c→w'.heap[c]?=w.heap[c]?
theorem Ext.refl(I K:Nat→Prop)(w:World):Ext I K w w:=⟨rfl,rfl,rfl,e6o _,λ_ _=>rfl⟩
theorem Ext.trans{I I' K:Nat→Prop}{w w' gP:World}(hI:∀c,I c→I' c)(h:Ext I K w w')(k:Ext I' K w' gP):Ext I K w gP:=
 ⟨k.os.trans h.os,k.tape.trans h.tape,k.output.trans h.output,Nat.le_trans h.size k.size,
  λc hc=>(k.keep c (hc.imp (hI c) id)).trans (h.keep c hc)⟩
theorem ORel.mono{G:GTab (List AV)}{I I':Nat→Prop}{w w':World}{ρ ρ':PMap}{m:Pl}(o:AObj)(hI:∀c,I c→I' c)(hw:∀c,I c→w'.heap[c]?=w.heap[c]?)
 (hρ:∀b m,ρ b=some m→ρ' b=some m)(hb:w'.heap[m.blk]?=w.heap[m.blk]?)(h:ORel G I w ρ m o):ORel G I' w' ρ' m o:=by
 cases o with
 |row k aa=>obtain⟨h1,h2,⟨bD,e,h3,h4⟩,h5⟩:=h;exact⟨h1,h2,⟨bD,e,by rw[hb,h3],h4⟩,VRows.mono hI hw aa hρ hb h5⟩
 |map ks vs bs bd=>obtain⟨es,h1,h2,h3,h4⟩:=h;exact⟨es,by rw[hb,h1],VRels.mono hI hw ks hρ h2,VRels.mono hI hw vs hρ h3,h4⟩
 |siter s pos=>obtain⟨h0,t,h1,h2⟩:=h;exact⟨h0,t,by rw[hb,h1],h2⟩
 |uset ks=>obtain⟨es,cl,h1,h2⟩:=h;exact⟨es,cl,by rw[hb,h1],h2⟩
 |miter ks b7 cD=>
  obtain⟨h0,h⟩:=h;rcases h with ⟨h1,h2,h3⟩|⟨c,es,cl,seen,h1,h2,h3,h4,h5⟩
  ·exact⟨h0,.inl ⟨h1,h2,by rw[hb,h3]⟩⟩
  ·exact⟨h0,.inr ⟨c,es,cl,seen,hI c h1,by rw[hw c h1,h2],h3,by rw[hb,h4],h5⟩⟩
 |yloop y F st=>obtain⟨ri,r,h0,h1,h2,h3,h4,h5,h6,h7⟩:=h;exact⟨ri,r,h0,by rw[hb,h1],h2,h3,h4,h5,λs=>VRel.mono hI hw _ hρ (h6 s),h7⟩
structure Stepped(G:GTab (List AV))(I K:Nat→Prop)(ρ:PMap)(w:World)(I':Nat→Prop)(ρ':PMap)(h':FHeap)(w':World):Prop where
 imm:∀c,I c→I' c
 map:∀b m,ρ b=some m→ρ' b=some m
 ext:Ext I K w w'
 rel:HRel G I' K ρ' h' w'
theorem Stepped.vrel{G I K ρ w I' ρ' h' w'}(s:Stepped G I K ρ w I' ρ' h' w'){v:AV}{c:Value}(h:VRel I w ρ v c):VRel I' w' ρ' v c:=VRel.mono s.imm (λc hc=>s.ext.keep c (.inl hc)) v s.map h
theorem Stepped.vrels{G I K ρ w I' ρ' h' w'}(s:Stepped G I K ρ w I' ρ' h' w'){v:List AV}{c:List Value}(h:VRels I w ρ v c):VRels I' w' ρ' v c:=VRels.mono s.imm (λc hc=>s.ext.keep c (.inl hc)) v s.map h
theorem Stepped.refl{G I K ρ h w}(r:HRel G I K ρ h w):Stepped G I K ρ w I ρ h w:=⟨λ_ h=>h,λ_ _ h=>h,Ext.refl _ _ _,r⟩
def SameMem(w w':World):Prop:=w'.heap=w.heap∧w'.tape=w.tape∧w'.os=w.os∧w'.output=w.output
section same
variable {I:Nat→Prop}{w w':World}
theorem SameMem.ext(s:SameMem w w')(I K:Nat→Prop):Ext I K w w':=⟨s.2.2.1,s.2.1,s.2.2.2,by rw[s.1];exact e6o _,λ_ _=>by rw[s.1]⟩
theorem HRel.same{G I K ρ h w w'}(r:HRel G I K ρ h w)(s:SameMem w w'):HRel G I K ρ h w':={
 live b o hb:=by obtain⟨m,h1,h2,h3,h4⟩:=r.live b o hb;exact⟨m,h1,h2,h3,ORel.mono o (λ_ h=>h) (λ_ _=>by rw[s.1]) (λ_ _ h=>h) (by rw[s.1]) h4⟩
 inj:=r.inj
 dom b m hb:=by rw[s.1];exact r.dom b m hb
 imm c hc:=by rw[s.1];exact r.imm c hc
 kept c hc:=by rw[s.1];exact r.kept c hc
 apart:=r.apart
 glob g cs hg:=⟨(r.glob g cs hg).1,VAt.mono (λ_ h=>h) (λ_ _=>by rw[s.1]) cs (λ_ _ h=>h) (by rw[s.1]) (r.glob g cs hg).2⟩}
theorem Stepped.same{G I K ρ h w w'}(r:HRel G I K ρ h w)(s:SameMem w w'):Stepped G I K ρ w I ρ h w':=⟨λ_ h=>h,λ_ _ h=>h,s.ext _ _,r.same s⟩
end same
theorem HRel.fewer{G I K ρ h h' w}(r:HRel G I K ρ h w)(hh:∀b o,h' b=some o→h b=some o):HRel G I K ρ h' w:={
 live b o hb:=r.live b o (hh b o hb)
 inj b b' m m' hb aR:=by
  refine r.inj b b' m m' ?_ ?_
  ·obtain⟨o,ho⟩:=e4v.1 hb;rw[hh b o ho];rfl
  ·obtain⟨o,ho⟩:=e4v.1 aR;rw[hh b' o ho];rfl
 dom:=r.dom
 imm:=r.imm
 kept:=r.kept
 apart:=r.apart
 glob:=r.glob}
/-! ### renaming -/
mutual
def ren(π:Nat→Option Nat):AV→AV
 |.ptr b i o=>match π b with|some b'=>.ptr b' i o|none=>.junk
 |.slice b off len cap=>match π b with|some b'=>.slice b' off len cap|none=>.junk
 |.map b=>match π b with|some b'=>.map b'|none=>.junk
 |.func fn fs cs=>.func fn (b92 π fs) (b92 π cs)
 |.iface t x=>.iface t (ren π x)
 |.agg cs=>.agg (b92 π cs)
 |.tuple cs=>.tuple (b92 π cs)
 |.iptr cs=>.iptr cs
 |.islice aa cap=>.islice aa cap
 |.imap ks vs bs bd=>.imap ks vs bs bd
 |.iset ks=>.iset ks
 |.yfn b=>match π b with|some b'=>.yfn b'|none=>.junk
 |.junk=>.junk
 |.bool b=>.bool b
 |.int k n=>.int k n
 |.str s=>.str s
 |.nilptr=>.nilptr
 |.nilslice=>.nilslice
 |.nilmap=>.nilmap
 |.nilfunc=>.nilfunc
 |.nilifc=>.nilifc
def b92(π:Nat→Option Nat):List AV→List AV
 | []=>[]
 |v::vs=>ren π v::b92 π vs
end
theorem a74(π:Nat→Option Nat):∀l:List AV,b92 π l=l.map (ren π)
 | []=>rfl
 |v::vs=>by simp[b92,a74 π vs]
def a0d(π:Nat→Option Nat):AObj→AObj
 |.row k aa=>.row k (aa.map λr=>r.map (ren π))
 |.map ks vs bs bd=>.map (ks.map (ren π)) (vs.map (ren π)) bs bd
 |.siter s pos=>.siter s pos
 |.uset ks=>.uset ks
 |.miter ks b7 cD=>.miter ks b7 cD
 |.yloop y F st=>.yloop y (F.map λx=>(x.1,ren π x.2)) st
section
variable {I:Nat→Prop}{w:World}{π:Nat→Option Nat}{ρ ρ':PMap}
mutual
theorem VRel.ren(hπ:∀b b' m,π b=some b'→ρ b=some m→ρ' b'=some m):∀(v:AV) {c:Value},VRel I w ρ v c→VRel I w ρ' (Ax.ren π v) c
 |.ptr b i o,c,h=>by
  simp only[VRel]at h;obtain⟨m,hm,rfl⟩:=h;cases hb:π b with
  |none=>simp[Ax.ren,hb,VRel]
  |some b'=>simp only[Ax.ren,hb,VRel];exact⟨m,hπ b b' m hb hm,rfl⟩
 |.slice b off len cap,c,h=>by
  simp only[VRel]at h;obtain⟨a,n,rfl,h1,h2,h3⟩:=h;cases hb:π b with
  |none=>simp[Ax.ren,hb,VRel]
  |some b'=>
   simp only[Ax.ren,hb,VRel];refine⟨a,n,rfl,h1,h2,h3.imp id ?_⟩
   rintro⟨m,hm,rfl,hr⟩
   exact⟨m,hπ b b' m hb hm,rfl,hr⟩
 |.map b,c,h=>by
  simp only[VRel]at h;obtain⟨m,hm,rfl⟩:=h;cases hb:π b with
  |none=>simp[Ax.ren,hb,VRel]
  |some b'=>simp only[Ax.ren,hb,VRel];exact⟨m,hπ b b' m hb hm,rfl⟩
 |.func fn fs cs,c,h=>by simp only[VRel,Ax.ren]at h⊢;obtain⟨bT,aF,rfl,h1,h2⟩:=h;exact⟨bT,aF,rfl,VRels.ren hπ fs h1,VRels.ren hπ cs h2⟩
 |.iface t x,c,h=>by simp only[VRel,Ax.ren]at h⊢;obtain⟨x',rfl,h⟩:=h;exact⟨x',rfl,VRel.ren hπ x h⟩
 |.agg cs,c,h=>by simp only[VRel,Ax.ren]at h⊢;obtain⟨aF,rfl,h⟩:=h;exact⟨aF,rfl,VRels.ren hπ cs h⟩
 |.tuple cs,c,h=>by simp only[VRel,Ax.ren]at h⊢;obtain⟨aF,rfl,h⟩:=h;exact⟨aF,rfl,VRels.ren hπ cs h⟩
 |.iptr cs,c,h=>by simpa[VRel,Ax.ren]using h
 |.islice aa cap,c,h=>by simpa only[VRel,Ax.ren]using h
 |.imap ks vs bs bd,c,h=>by simpa only[VRel,Ax.ren]using h
 |.iset ks,c,h=>by simpa only[VRel,Ax.ren]using h
 |.yfn b,c,h=>by
  simp only[VRel]at h;obtain⟨m,hm,rfl⟩:=h;cases hb:π b with
  |none=>simp[Ax.ren,hb,VRel]
  |some b'=>simp only[Ax.ren,hb,VRel];exact⟨m,hπ b b' m hb hm,rfl⟩
 |.junk,c,h=>by simp[VRel,Ax.ren]
 |.bool b,c,h=>by simpa[VRel,Ax.ren]using h
 |.int k n,c,h=>by simpa[VRel,Ax.ren]using h
 |.str s,c,h=>by simpa[VRel,Ax.ren]using h
 |.nilptr,c,h=>by simpa[VRel,Ax.ren]using h
 |.nilslice,c,h=>by simpa[VRel,Ax.ren]using h
 |.nilmap,c,h=>by simpa[VRel,Ax.ren]using h
 |.nilfunc,c,h=>by simpa[VRel,Ax.ren]using h
 |.nilifc,c,h=>by simpa[VRel,Ax.ren]using h
theorem VRels.ren(hπ:∀b b' m,π b=some b'→ρ b=some m→ρ' b'=some m):∀(vs:List AV) {cs:List Value},VRels I w ρ vs cs→VRels I w ρ' (b92 π vs) cs
 | [],cs,h=>by simpa[VRels,b92]using h
 |v::vs,cs,h=>by simp only[VRels,b92]at h⊢;obtain⟨c,aF,rfl,h1,h2⟩:=h;exact⟨c,aF,rfl,VRel.ren hπ v h1,VRels.ren hπ vs h2⟩
end
theorem VAt.ren(hπ:∀b b' m,π b=some b'→ρ b=some m→ρ' b'=some m):∀(vs:List AV) {b off:Nat},VAt I w ρ vs b off→VAt I w ρ' (vs.map (Ax.ren π)) b off
 | [],b,off,h=>by simp[VAt]
 |v::vs,b,off,h=>by simp only[VAt,e4r]at h⊢;obtain⟨⟨c,hc,h1⟩,h2⟩:=h;exact⟨⟨c,hc,VRel.ren hπ v h1⟩,VAt.ren hπ vs h2⟩
theorem VRows.ren{k:Nat}(hπ:∀b b' m,π b=some b'→ρ b=some m→ρ' b'=some m):∀(rs:List (List AV)) {b off:Nat},VRows I w k ρ rs b off→
 VRows I w k ρ' (rs.map λr=>r.map (Ax.ren π)) b off
 | [],b,off,h=>by simp[VRows]
 |r::rs,b,off,h=>by simp only[VRows,e4r]at h⊢;obtain⟨h0,h1,h2⟩:=h;exact⟨by simpa using h0,VAt.ren hπ r h1,VRows.ren hπ rs h2⟩
theorem b7n(π:Nat→Option Nat):∀(F:List (Nat×AV)) (s:Nat),b7o (F.map λx=>(x.1,Ax.ren π x.2)) s=Ax.ren π (b7o F s)
 | [],s=>by simp[b7o,Ax.ren]
 |(t,v)::F,s=>by simp only[e4r,b7o,b7n π F s];cases Nat.beq t s<;>rfl
theorem ORel.ren{G:GTab (List AV)}{m:Pl}(hπ:∀b b' m,π b=some b'→ρ b=some m→ρ' b'=some m)(o:AObj)(h:ORel G I w ρ m o):ORel G I w ρ' m (a0d π o):=by
 cases o with
 |row k aa=>obtain⟨h1,h2,h3,h5⟩:=h;exact⟨h1,h2,by simpa using h3,VRows.ren hπ aa h5⟩
 |map ks vs bs bd=>obtain⟨es,h1,h2,h3,h4⟩:=h;exact⟨es,h1,by rw[←a74];exact VRels.ren hπ ks h2,by rw[←a74];exact VRels.ren hπ vs h3,h4⟩
 |siter s pos=>exact h
 |uset ks=>exact h
 |miter ks b7 cD=>exact h
 |yloop y F st=>obtain⟨ri,r,h0,h1,h2,h3,h4,h5,h6,h7⟩:=h;refine⟨ri,r,h0,h1,h2,h3,h4,h5,λs=>?_,h7⟩;rw[b7n];exact VRel.ren hπ _ (h6 s)
end
end Go.Ax
/- AxEff: what an operation may do to the abstract heap, and that the relation follows. -/
namespace Go.Ax
inductive Eff where
 |none
 |new (o:AObj)
 |set (b:Nat)(o:AObj)
 |kill (b:Nat)(o:AObj)
def PMap.set(ρ:PMap)(n:Nat)(m:Pl):PMap:=λb=>if b=n then some m else ρ b
def FHeap.set(h:FHeap)(n:Nat)(o:Option AObj):FHeap:=λb=>if b=n then o else h b
def FHeap.eff(h:FHeap)(n:Nat):Eff→FHeap
 |.none=>h
 |.new o=>h.set n (some o)
 |.set b o=>h.set b (some o)
 |.kill b o=>(h.set b Option.none).set n (some o)
def Eff.fresh:Eff→Bool
 |.new _|.kill _ _=>true
 |_=>false
def Moves(ρ ρ':PMap)(n:Nat)(e:Eff):Prop:=(∀b,b≠n→ρ' b=ρ b)∧(e.fresh=false→ρ'=ρ)
theorem Moves.same(ρ:PMap)(n:Nat)(e:Eff):Moves ρ ρ n e:=⟨λ_ _=>rfl,λ_=>rfl⟩
theorem Moves.set(ρ:PMap)(n:Nat){e:Eff}(m:Pl)(he:e.fresh=true):Moves ρ (ρ.set n m) n e:=⟨λb hb=>by simp[PMap.set,hb],λh=>by simp[he]at h⟩
theorem PMap.set_old{ρ:PMap}{n:Nat}{m:Pl}(hn:ρ n=Option.none):∀b m',ρ b=some m'→ρ.set n m b=some m':=by
 intro b m' h;unfold PMap.set;split
 ·subst b;simp[hn]at h
 ·exact h
section
variable {G:GTab (List AV)}{I K:Nat→Prop}{ρ:PMap}{h:FHeap}{w w':World}{n:Nat}
theorem a1y(r:HRel G I K ρ h w)(_:h n=none)(hρ:ρ n=none){ob:Obj}{o:AObj}{m:Pl}
 (hw:w'.heap=w.heap.push ob)(ht:w'.tape=w.tape)(dL:w'.os=w.os)(aM:w'.output=w.output)
 (hm:m.blk=w.heap.size)(ho:ORel G I w' (ρ.set n m) m o):Stepped G I K ρ w I (ρ.set n m) (h.eff n (.new o)) w':=by
 have aJ:∀c,c<w.heap.size→w'.heap[c]?=w.heap[c]?:=by intro c hc;rw[hw,e9x,e5s (by omega)]
 have aC:=PMap.set_old (m:=m) hρ;refine⟨λ_ h=>h,aC,⟨dL,ht,aM,by rw[hw];simp,?_⟩,?_⟩
 ·rintro c (hc|hc)
  ·exact aJ c (r.imm c hc)
  ·exact aJ c (r.kept c hc)
 ·refine⟨?_,?_,?_,?_,?_,r.apart,?_⟩
  ·intro b o' hb;simp only[FHeap.eff,FHeap.set]at hb;split at hb
   ·subst b;cases hb;refine⟨m,by simp[PMap.set],λhc=>?_,λhc=>?_,ho⟩
    ·have:=r.imm _ hc;omega
    ·have:=r.kept _ hc;omega
   ·obtain⟨m',h1,h2,h3,h4⟩:=r.live b o' hb;exact⟨m',aC b m' h1,h2,h3,ORel.mono o' (λ_ h=>h) (λc hc=>aJ c (r.imm c hc)) aC (aJ _ (r.dom b m' h1)) h4⟩
  ·intro b b' m1 m2 hb aR h1 h2 he;simp only[FHeap.eff,FHeap.set,PMap.set]at hb aR h1 h2;split at hb<;>split at aR
   ·omega
   ·rename_i kz gG;rw[e6q kz]at h1;rw[e5s gG]at h2;cases h1;have:=r.dom b' m2 h2;omega
   ·rename_i kz gG;rw[e5s kz]at h1;rw[e6q gG]at h2;cases h2;have:=r.dom b m1 h1;omega
   ·rename_i kz gG;rw[e5s kz]at h1;rw[e5s gG]at h2;exact r.inj b b' m1 m2 hb aR h1 h2 he
  ·intro b m' hb;rw[hw];simp only[Array.size_push];simp only[PMap.set]at hb;split at hb
   ·cases hb;omega
   ·have:=r.dom b m' hb;omega
  ·intro c hc;rw[hw];simp only[Array.size_push];have:=r.imm c hc;omega
  ·intro c hc;rw[hw];simp only[Array.size_push];have:=r.kept c hc;omega
  ·intro g cs hg;obtain⟨h1,h2⟩:=r.glob g cs hg;exact⟨h1,VAt.mono (λ_ h=>h) (λc hc=>aJ c (r.imm c hc)) cs (λ_ _ h=>h) (aJ g (r.imm g h1)) h2⟩
theorem a1n(r:HRel G I K ρ h w){b:Nat}{o0 o:AObj}{m:Pl}(hb:h b=some o0)(hρ:ρ b=some m)
 (aL:w'.heap.size=w.heap.size)(hw:∀c,c≠m.blk→w'.heap[c]?=w.heap[c]?)(ht:w'.tape=w.tape)(dL:w'.os=w.os)(aM:w'.output=w.output)
 (ho:ORel G I w' ρ m o):Stepped G I K ρ w I ρ (h.eff n (.set b o)) w':=by
 obtain⟨m',a9,cK,eh,_⟩:=r.live b o0 hb;obtain rfl:m=m':=z9o (hρ.symm.trans a9);have bP:∀c,I c→w'.heap[c]?=w.heap[c]?:=λc hc=>hw c (λe=>cK (e▸hc));refine⟨λ_ h=>h,λ_ _ h=>h,⟨dL,ht,aM,by omega,?_⟩,?_⟩
 ·rintro c (hc|hc)
  ·exact bP c hc
  ·exact hw c (λe=>eh (e▸hc))
 ·refine⟨?_,?_,?_,?_,?_,r.apart,?_⟩
  ·intro b' o' aR;simp only[FHeap.eff,FHeap.set]at aR;split at aR
   ·rename_i he;cases aR;subst he;exact⟨m,hρ,cK,eh,ho⟩
   ·rename_i az;obtain⟨m',h1,h2,h3,h4⟩:=r.live b' o' aR;refine⟨m',h1,h2,h3,ORel.mono o' (λ_ h=>h) bP (λ_ _ h=>h) (hw _ ?_) h4⟩;intro e;exact az (r.inj b' b m' m (by simp[aR]) (by simp[hb]) h1 hρ e)
  ·intro b1 b2 m1 m2 h1 h2;refine r.inj b1 b2 m1 m2 ?_ ?_
   ·simp only[FHeap.eff,FHeap.set]at h1;split at h1
    ·subst b1;simp[hb]
    ·exact h1
   ·simp only[FHeap.eff,FHeap.set]at h2;split at h2
    ·subst b2;simp[hb]
    ·exact h2
  ·intro b' m' aR;rw[aL];exact r.dom b' m' aR
  ·intro c hc;rw[aL];exact r.imm c hc
  ·intro c hc;rw[aL];exact r.kept c hc
  ·intro g cs hg;obtain⟨h1,h2⟩:=r.glob g cs hg;exact⟨h1,VAt.mono (λ_ h=>h) bP cs (λ_ _ h=>h) (bP g h1) h2⟩
theorem b0u(r:HRel G I K ρ h w)(hh:h n=none)(hρ:ρ n=none)(b:Nat){ob:Obj}{o:AObj}{m:Pl}
 (hw:w'.heap=w.heap.push ob)(ht:w'.tape=w.tape)(dL:w'.os=w.os)(aM:w'.output=w.output)
 (hm:m.blk=w.heap.size)(ho:ORel G I w' (ρ.set n m) m o):Stepped G I K ρ w I (ρ.set n m) (h.eff n (.kill b o)) w':=by
 have r':HRel G I K ρ (h.set b none) w:=r.fewer (by
  intro b' o' aR;simp only[FHeap.set]at aR;split at aR
  ·cases aR
  ·exact aR)
 have:=a1y (h:=h.set b none) (n:=n) (o:=o) r' (by simp only[FHeap.set];split<;>simp_all) hρ hw ht dL aM hm ho;exact this
theorem a5r(r:HRel G I K ρ h w)(hh:h n=none)(hρ:ρ n=none){b:Nat}{o0 o:AObj}{mb m:Pl}(hb:h b=some o0)(hρb:ρ b=some mb)
 (hm:m.blk=mb.blk)(aL:w'.heap.size=w.heap.size)(hw:∀c,c≠mb.blk→w'.heap[c]?=w.heap[c]?)(ht:w'.tape=w.tape)(dL:w'.os=w.os)(aM:w'.output=w.output)
 (ho:ORel G I w' (ρ.set n m) m o):Stepped G I K ρ w I (ρ.set n m) (h.eff n (.kill b o)) w':=by
 obtain⟨m',a9,cK,eh,_⟩:=r.live b o0 hb;obtain rfl:mb=m':=z9o (hρb.symm.trans a9);have aC:=PMap.set_old (m:=m) hρ;have bP:∀c,I c→w'.heap[c]?=w.heap[c]?:=λc hc=>hw c (λe=>cK (e▸hc));have kz:b≠n:=λe=>by subst e;simp[hh]at hb
 have ak:=r.dom b mb hρb;refine⟨λ_ h=>h,aC,⟨dL,ht,aM,by omega,?_⟩,?_⟩
 ·rintro c (hc|hc)
  ·exact bP c hc
  ·exact hw c (λe=>eh (e▸hc))
 ·refine⟨?_,?_,?_,?_,?_,r.apart,?_⟩
  ·intro b' o' aR;simp only[FHeap.eff,FHeap.set]at aR;split at aR
   ·rename_i he;cases aR;subst he;exact⟨m,by simp[PMap.set],by rw[hm];exact cK,by rw[hm];exact eh,ho⟩
   ·rename_i az;split at aR
    ·cases aR
    ·rename_i fF;obtain⟨m',h1,h2,h3,h4⟩:=r.live b' o' aR;refine⟨m',aC b' m' h1,h2,h3,ORel.mono o' (λ_ h=>h) bP aC (hw _ ?_) h4⟩;intro e;exact fF (r.inj b' b m' mb (by simp[aR]) (by simp[hb]) h1 hρb e)
  ·intro b1 b2 m1 m2 cf dF h1 h2 he;simp only[FHeap.eff,FHeap.set,PMap.set]at cf dF h1 h2;by_cases e1:b1=n<;>by_cases e2:b2=n
   ·omega
   ·rw[e6q e1]at h1;rw[e5s e2]at h2;rw[e5s e2]at dF;cases h1;split at dF
    ·cases dF
    ·rename_i az;exact absurd (r.inj b2 b m2 mb dF (by simp[hb]) h2 hρb (by omega)) az
   ·rw[e5s e1]at h1;rw[e6q e2]at h2;rw[e5s e1]at cf;cases h2;split at cf
    ·cases cf
    ·rename_i az;exact absurd (r.inj b1 b m1 mb cf (by simp[hb]) h1 hρb (by omega)) az
   ·rw[e5s e1]at h1;rw[e5s e2]at h2;rw[e5s e1]at cf;rw[e5s e2]at dF;split at cf
    ·cases cf
    ·split at dF
     ·cases dF
     ·exact r.inj b1 b2 m1 m2 cf dF h1 h2 he
  ·intro b' m' aR;rw[aL];simp only[PMap.set]at aR;split at aR
   ·cases aR;omega
   ·exact r.dom b' m' aR
  ·intro c hc;rw[aL];exact r.imm c hc
  ·intro c hc;rw[aL];exact r.kept c hc
  ·intro g cs hg;obtain⟨h1,h2⟩:=r.glob g cs hg;exact⟨h1,VAt.mono (λ_ h=>h) bP cs (λ_ _ h=>h) (bP g h1) h2⟩
end
end Go.Ax
/- AxVal: lists of cells: splitting, reading, replacing. -/
namespace Go.Ax
section
variable {I I':Nat→Prop}{w w':World}{ρ ρ':PMap}
theorem VRels.length:∀{vs:List AV} {cs:List Value},VRels I w ρ vs cs→vs.length=cs.length
 | [],cs,h=>by simp[VRels]at h;simp[h]
 |v::vs,cs,h=>by simp only[VRels]at h;obtain⟨c,aF,rfl,_,h⟩:=h;simp[VRels.length h]
theorem VRels.append:∀{as bs:List AV} {xs ys:List Value},VRels I w ρ as xs→VRels I w ρ bs ys→VRels I w ρ (as++bs) (xs++ys)
 | [],bs,xs,ys,h,k=>by simp[VRels]at h;simpa[h]using k
 |v::as,bs,xs,ys,h,k=>by simp only[VRels,e7p]at h⊢;obtain⟨c,aF,rfl,h1,h2⟩:=h;exact⟨c,aF++ys,rfl,h1,VRels.append h2 k⟩
theorem VRels.get:∀{vs:List AV} {cs:List Value} (i:Nat) {v:AV},VRels I w ρ vs cs→vs[i]?=some v→∃c,cs[i]?=some c∧VRel I w ρ v c
 | [],cs,i,v,h,hv=>by simp at hv
 |x::vs,cs,i,v,h,hv=>by
  simp only[VRels]at h;obtain⟨c,aF,rfl,h1,h2⟩:=h;cases i with
  |zero=>simp at hv;subst hv;exact⟨c,by simp,h1⟩
  |succ i=>simp at hv;simpa using VRels.get i h2 hv
theorem VRels.drop:∀{vs:List AV} {cs:List Value} (i:Nat),VRels I w ρ vs cs→VRels I w ρ (vs.drop i) (cs.drop i)
 |vs,cs,0,h=>by simpa using h
 | [],cs,i+1,h=>by simp[VRels]at h⊢;simp[h]
 |x::vs,cs,i+1,h=>by simp only[VRels]at h;obtain⟨c,aF,rfl,h1,h2⟩:=h;simpa using VRels.drop i h2
theorem VRels.take:∀{vs:List AV} {cs:List Value} (i:Nat),VRels I w ρ vs cs→VRels I w ρ (vs.take i) (cs.take i)
 |vs,cs,0,h=>by simp[VRels]
 | [],cs,i+1,h=>by simp[VRels]at h⊢;simp[h]
 |x::vs,cs,i+1,h=>by simp only[VRels]at h;obtain⟨c,aF,rfl,h1,h2⟩:=h;simp only[List.take_succ_cons,VRels];exact⟨c,aF.take i,rfl,h1,VRels.take i h2⟩
theorem VRels.set:∀{vs:List AV} {cs:List Value} (i:Nat) {v:AV} {c:Value},VRels I w ρ vs cs→VRel I w ρ v c→VRels I w ρ (vs.set i v) (cs.set i c)
 | [],cs,i,v,c,h,hv=>by simp[VRels]at h⊢;simp[h]
 |x::vs,cs,i,v,c,h,hv=>by
  simp only[VRels]at h;obtain⟨c',aF,rfl,h1,h2⟩:=h;cases i with
  |zero=>simp only[List.set_cons_zero,VRels];exact⟨c,aF,rfl,hv,h2⟩
  |succ i=>simp only[List.set_cons_succ,VRels];exact⟨c',aF.set i c,rfl,h1,VRels.set i h2 hv⟩
def CellsAt(w:World)(cs:List Value)(b off:Nat):Prop:=∀j v,cs[j]?=some v→w.cell? ⟨b,off+j,none⟩=some v
theorem VAt.of_cells:∀{vs:List AV} {cs:List Value} {b off:Nat},CellsAt w cs b off→VRels I w ρ vs cs→VAt I w ρ vs b off
 | [],cs,b,off,_,_=>by simp[VAt]
 |v::vs,cs,b,off,hc,h=>by simp only[VRels,VAt]at h⊢;obtain⟨c,aF,rfl,h1,h2⟩:=h;refine⟨⟨c,by simpa using hc 0 c (by simp),h1⟩,VAt.of_cells (λj v hv=>?_) h2⟩;have:=hc (j+1) v (by simpa using hv);rw[show off+1+j=off+(j+1) by omega];exact this
theorem VAt.cells:∀{vs:List AV} {b off:Nat},VAt I w ρ vs b off→∃cs,CellsAt w cs b off∧VRels I w ρ vs cs
 | [],b,off,_=>⟨[],λj v hv=>by simp at hv,by simp[VRels]⟩
 |v::vs,b,off,h=>by
  simp only[VAt]at h;obtain⟨⟨c,hc,h1⟩,h2⟩:=h;obtain⟨cs,k1,k2⟩:=VAt.cells h2;refine⟨c::cs,λj v hv=>?_,by simp only[VRels];exact⟨c,cs,rfl,h1,k2⟩⟩;cases j with
  |zero=>simp at hv;subst hv;simpa using hc
  |succ j=>have:=k1 j v (by simpa using hv);rw[show off+(j+1)=off+1+j by omega];exact this
theorem VAt.append:∀{as bs:List AV} {b off:Nat},VAt I w ρ (as++bs) b off↔VAt I w ρ as b off∧VAt I w ρ bs b (off+as.length)
 | [],bs,b,off=>by simp[VAt]
 |v::as,bs,b,off=>by simp only[e7p,VAt,e5l];rw[VAt.append,and_assoc,show off+1+as.length=off+(as.length+1) by omega]
theorem VAt.drop{vs:List AV}{b off:Nat}(i:Nat)(hi:i≤vs.length)(h:VAt I w ρ vs b off):VAt I w ρ (vs.drop i) b (off+i):=by rw[←f00 i vs,VAt.append]at h;simpa[Nat.min_eq_left hi]using h.2
theorem VAt.take{vs:List AV}{b off:Nat}(i:Nat)(h:VAt I w ρ vs b off):VAt I w ρ (vs.take i) b off:=by rw[←f00 i vs,VAt.append]at h;exact h.1
theorem VRows.iff{k:Nat}:∀{rs:List (List AV)} {b off:Nat},VRows I w k ρ rs b off↔(∀r∈rs,r.length=k)∧VAt I w ρ rs.flatten b off
 | [],b,off=>by simp[VRows,VAt]
 |r::rs,b,off=>by
  simp only[VRows,e80,VAt.append,e6v,forall_eq_or_imp];rw[VRows.iff];constructor
  ·rintro⟨h0,h1,h2,h3⟩;exact⟨⟨h0,h2⟩,h1,by rw[h0];exact h3⟩
  ·rintro⟨⟨h0,h2⟩,h1,h3⟩;exact⟨h0,h1,h2,by rw[h0]at h3;exact h3⟩
theorem a0o{k:Nat}:∀{rs:List (List AV)},(∀r∈rs,r.length=k)→rs.flatten.length=rs.length*k
 | [],_=>by simp
 |r::rs,h=>by simp only[e80,e6k,e5l];rw[a0o (λr hr=>h r (by simp[hr])),h r (by simp),f0a,Nat.add_comm]
theorem VRows.get{k:Nat}:∀{rs:List (List AV)} {b off:Nat} (i:Nat) {r:List AV},VRows I w k ρ rs b off→rs[i]?=some r→r.length=k∧VAt I w ρ r b (off+i*k)
 | [],b,off,i,r,h,hr=>by simp at hr
 |x::rs,b,off,i,r,h,hr=>by
  simp only[VRows]at h;obtain⟨h0,h1,h2⟩:=h;cases i with
  |zero=>simp at hr;subst hr;exact⟨h0,by simpa using h1⟩
  |succ i=>have:=VRows.get i h2 (by simpa using hr);rw[show off+(i+1)*k=off+k+i*k by rw[f0a];omega];exact this
theorem VRows.append{k:Nat}:∀{as bs:List (List AV)} {b off:Nat},VRows I w k ρ (as++bs) b off↔VRows I w k ρ as b off∧VRows I w k ρ bs b (off+as.length*k)
 | [],bs,b,off=>by simp[VRows]
 |v::as,bs,b,off=>by simp only[e7p,VRows,e5l];rw[VRows.append,show off+k+as.length*k=off+(as.length+1)*k by rw[f0a];omega];simp only[and_assoc]
theorem VRows.drop{k:Nat}{rs:List (List AV)}{b off:Nat}(i:Nat)(hi:i≤rs.length)(h:VRows I w k ρ rs b off):VRows I w k ρ (rs.drop i) b (off+i*k):=by rw[←f00 i rs,VRows.append]at h;simpa[Nat.min_eq_left hi]using h.2
theorem VRows.take{k:Nat}{rs:List (List AV)}{b off:Nat}(i:Nat)(h:VRows I w k ρ rs b off):VRows I w k ρ (rs.take i) b off:=by rw[←f00 i rs,VRows.append]at h;exact h.1
theorem VAt.mono_cells(hI:∀c,I c→I' c)(hw:∀c,I c→w'.heap[c]?=w.heap[c]?)(hρ:∀b m,ρ b=some m→ρ' b=some m) :
 ∀{vs:List AV} {b off:Nat},(∀j,j<vs.length→w'.cell? ⟨b,off+j,none⟩=w.cell? ⟨b,off+j,none⟩)→VAt I w ρ vs b off→VAt I' w' ρ' vs b off
 | [],b,off,_,_=>by simp[VAt]
 |v::vs,b,off,hc,h=>by simp only[VAt]at h⊢;obtain⟨⟨c,cw,h1⟩,h2⟩:=h;refine⟨⟨c,by rw[←cw];simpa using hc 0 (by simp),VRel.mono hI hw v hρ h1⟩,VAt.mono_cells hI hw hρ (λj hj=>?_) h2⟩;rw[show off+1+j=off+(j+1) by omega];exact hc (j+1) (by simp;omega)
theorem VRows.mono_cells{k:Nat}(hI:∀c,I c→I' c)(hw:∀c,I c→w'.heap[c]?=w.heap[c]?)(hρ:∀b m,ρ b=some m→ρ' b=some m)
 {rs:List (List AV)}{b off:Nat}(hc:∀j,j<rs.length*k→w'.cell? ⟨b,off+j,none⟩=w.cell? ⟨b,off+j,none⟩)(h:VRows I w k ρ rs b off):VRows I' w' k ρ' rs b off:=by
 rw[VRows.iff]at h⊢;exact⟨h.1,VAt.mono_cells hI hw hρ (by rw[a0o h.1];exact hc) h.2⟩
theorem a6l{b o:Nat}{bD:Array Value}{e:TypeId}{fz:Nat×Nat}(h:w.heap[b]?=some (.cells bD e fz)):w.cell? ⟨b,o,none⟩=bD[o]?:=by simp[World.cell?,h]
theorem CellsAt.of_heap{b off:Nat}{bD:Array Value}{e:TypeId}{fz:Nat×Nat}{cs:List Value}(h:w.heap[b]?=some (.cells bD e fz))
 (hc:∀j v,cs[j]?=some v→bD[off+j]?=some v):CellsAt w cs b off:=by
 intro j v hv;rw[a6l h];exact hc j v hv
theorem VRels.noRef_any{vs:List AV}{cs:List Value}(h:VRels I w noP vs cs):VRels I w ρ vs cs:=VRels.mono (λ_ h=>h) (λ_ _=>rfl) vs (λ_ _ h=>by simp[noP]at h) h
theorem VRel.noRef_any{v:AV}{c:Value}(h:VRel I w noP v c):VRel I w ρ v c:=VRel.mono (λ_ h=>h) (λ_ _=>rfl) v (λ_ _ h=>by simp[noP]at h) h
theorem VAt.noRef_any{vs:List AV}{b off:Nat}(h:VAt I w noP vs b off):VAt I w ρ vs b off:=VAt.mono (λ_ h=>h) (λ_ _=>rfl) vs (λ_ _ h=>by simp[noP]at h) rfl h
end
end Go.Ax
/- AxEnv: the tables of a program that the evaluator d0p; frames; operands. -/
namespace Go.Ax
structure FInfo where
 code:Code
 ntmps:Nat
 results:List ResultVar
abbrev a02:=List (Option AObj)
structure Env where
 P:Program
 und:TypeId→Option TypeDesc
 sz:TypeId→Nat
 bytes:TypeId→Nat
 zero:TypeId→Option (List AV)
 eqok:TypeId→Bool
 G:GTab (List AV)
 fn:FuncId→Option FInfo
 keep:FuncId→Nat→List Nat
 thaw:FuncId→Bool
 ro:FuncId→Bool
 ext:FuncId→Bool
 prim:FuncId→List AV→Option (AV×a02):=λ_ _=>none
 zf:FuncId→Bool:=λ_=>false
abbrev yId:FuncId:=999999999
def a1t:TypeDesc→Bool
 |.struct _|.array _ _=>true
 |_=>false
structure EnvOk(E:Env):Prop where
 und:∀t d,E.und t=some d→E.P.underlying t=some d∧∃i,E.P.info? t=some i∧i.size=E.sz t∧i.bytes=E.bytes t
 zero:∀t cs,E.zero t=some cs→(∃d,E.und t=some d)∧∃i z,E.P.info? t=some i∧i.zero=some z∧cs.length=E.sz t∧
  ∀I w,VRels I w noP cs z.cells.toList
 zshape:∀t d i z,E.und t=some d→E.P.info? t=some i→i.zero=some z→(a1t d=true→∃a,z = .agg a)∧(a1t d=false→z.cells = #[z])
 eqok:∀t,E.eqok t=true→E.P.eqGuardType E.P.depth t=false∧E.P.stoodInHeld t=false∧(∃i,E.P.info? t=some i∧i.comparable=true)∧
  ∀fs,E.und t=some (.struct fs)→∀f∈fs.toList,f.name≠ "_"
 fn:∀f i,E.fn f=some i→∃fn,E.P.funcs[f]?=some fn∧fn.body=some i.code∧fn.ntmps=i.ntmps∧fn.results.toList=i.results∧(fn.name == "runtime.NumGoroutine")=false
 ext:∀f,E.ext f=true→(E.fn f).isSome=false→∃fn,E.P.funcs[f]?=some fn∧fn.body=none∧(fn.name == "runtime.NumGoroutine")=false∧Extern.findNext fn=none∧Extern.find fn=some Extern.BytealgIndexByte.indexByte
 mixed:E.P.follows .mixedOrders=true
 yid:E.fn yId=none
section
variable {E:Env}(ok:EnvOk E){t:TypeId}{d:TypeDesc}(w:World)
include ok
theorem a07(h:E.und t=some d):(underlying t).run E.P w = .ok d w:=run_underlying (ok.und t d h).1 w
theorem b12(h:E.und t=some d):∃i,(typeInfo t).run E.P w = .ok i w∧i.size=E.sz t∧i.bytes=E.bytes t:=by obtain⟨_,i,hi,h1,h2⟩:=ok.und t d h;exact⟨i,by simp[typeInfo,hi],h1,h2⟩
theorem a2m(h:E.und t=some d):(sizeOf t).run E.P w = .ok (E.sz t) w:=by obtain⟨i,hi,h1,_⟩:=b12 ok w h;simp[sizeOf,hi,h1]
theorem b1p(h:E.und t=some d):(isAgg t).run E.P w = .ok (a1t d) w:=by unfold isAgg;simp only[Sem.run_bind,a07 ok w h,Result.andThen_ok];cases d<;>rfl
theorem a68{cs:List AV}(h:E.zero t=some cs):∃z,(zeroValue t).run E.P w = .ok z w∧cs.length=E.sz t∧∀I w',VRels I w' noP cs z.cells.toList:=by obtain⟨_,i,z,hi,hz,h1,h2⟩:=ok.zero t cs h;exact⟨z,by simp[zeroValue,typeInfo,hi,hz],h1,h2⟩
end
/-! ### frames -/
abbrev Frm:=List (Nat×AV)
def a2n:Frm→Nat→AV
 | [],_=>.junk
 |(s,v)::r,t=>bif Nat.beq s t then v else a2n r t
theorem c9l(s t:Nat):Nat.beq s t=(s==t):=by
 by_cases h:s=t
 ·subst h;simp
 ·rw[e7r.2 h];cases hb:Nat.beq s t with
  |false=>rfl
  |true=>exact absurd (e8j hb) h
def a32(F:Frm)(d:Option Nat)(v:AV):Frm:=
 match d with
 |some s=>(s,v)::F
 |none=>F
def FRel(I:Nat→Prop)(w:World)(ρ:PMap)(N:Nat)(F:Frm)(tmps:Array Value):Prop:=tmps.size=N∧∀s,VRel I w ρ (a2n F s) (tmps.getD s undef)
def a36:Value→AV
 |.bool b=>.bool b
 |.int k n=>.int k n
 |.string s=>.str s.data.toList
 |.pointer a=>match a with|none=>.nilptr|some _=>.junk
 |.slice a l c=>match a,l,c with|none,0,0=>.nilslice|_,_,_=>.junk
 |.map r=>match r with|none=>.nilmap|some _=>.junk
 |.nilFunc=>.nilfunc
 |.nilIface=>.nilifc
 |.tuple vs=>match vs.toList with|[]=>.tuple []|_=>.junk
 |_=>.junk
def c2b:Value→AV
 |.agg cs=>.agg (cs.toList.map a36)
 |v=>a36 v
def opv(E:Env)(F:Frm):Operand→AV
 |.tmp t=>a2n F t
 |.const v=>c2b v
 |.global g=>match E.G g with|some cs=>.iptr cs|none=>.junk
 |.func f=>.func (.func f) [] []
section
variable {I:Nat→Prop}{w:World}{ρ:PMap}
theorem b0q(v:Value):VRel I w ρ (a36 v) v:=by
 cases v with
 |pointer a=>cases a<;>simp[a36,VRel]
 |slice a l c=>cases a<;>cases l<;>cases c<;>simp[a36,VRel]
 |map a=>cases a<;>simp[a36,VRel]
 |tuple vs=>
  simp only[a36];split
  ·rename_i h;simp only[VRel];exact⟨vs,rfl,by simp[VRels,h]⟩
  ·simp[VRel]
 |_=>simp[a36,VRel]
theorem a6j:∀l:List Value,VRels I w ρ (l.map a36) l
 | []=>by simp[VRels]
 |v::l=>by simp only[e4r,VRels];exact⟨v,l,rfl,b0q v,a6j l⟩
theorem b8l(v:Value):VRel I w ρ (c2b v) v:=by
 unfold c2b;split
 ·rename_i cs;simp only[VRel];exact⟨cs,rfl,a6j _⟩
 ·exact b0q v
theorem b21{E:Env}{K:Nat→Prop}{h:FHeap}{N:Nat}{F:Frm}{a:Act}(r:HRel E.G I K ρ h w)(hF:FRel I w ρ N F a.tmps)(x:Operand) :
 VRel I w ρ (opv E F x) (a.eval x):=by
 cases x with
 |tmp t=>exact hF.2 t
 |const v=>exact b8l v
 |global g=>
  simp only[opv,Act.eval];cases hg:E.G g with
  |none=>simp[VRel]
  |some cs=>obtain⟨h1,h2⟩:=r.glob g cs hg;simp only[VRel];exact⟨g,0,rfl,h1,h2⟩
 |func f=>simp only[opv,Act.eval,VRel];exact⟨#[],#[],rfl,by simp[VRels],by simp[VRels]⟩
theorem a7f(F:Frm)(d s:Nat)(v:AV):a2n (a32 F (some d) v) s=if d=s then v else a2n F s:=by
 simp only[a32,a2n,c9l];by_cases h:d=s
 ·simp[h]
 ·simp[h,e7r.2 h]
theorem FRel.set{N:Nat}{F:Frm}{a:Act}{d:Option Nat}{v:AV}{c:Value}(hF:FRel I w ρ N F a.tmps)(hd:∀s,d=some s→s<N)(hv:VRel I w ρ v c) :
 FRel I w ρ N (a32 F d v) (a.put d c).tmps:=by
 cases d with
 |none=>exact hF
 |some d=>
  have ak:=hd d rfl;refine⟨by simp[Act.put,hF.1],λs=>?_⟩;rw[a7f];simp only[Act.put,e6y,e7i,hF.1];split
  ·subst s;simpa[ak]using hv
  ·have:=hF.2 s;simpa[e6y]using this
theorem FRel.mono{I':Nat→Prop}{w':World}{ρ':PMap}{N:Nat}{F:Frm}{t:Array Value}(hF:FRel I w ρ N F t)
 (hv:∀(v:AV) (c:Value),VRel I w ρ v c→VRel I' w' ρ' v c):FRel I' w' ρ' N F t:=⟨hF.1,λs=>hv _ _ (hF.2 s)⟩
end
def AV.cells:AV→List AV
 |.agg cs=>cs
 |v=>[v]
def AV.storable:AV→Bool
 |.junk|.agg _|.tuple _=>false
 |_=>true
section
variable {I:Nat→Prop}{w:World}{ρ:PMap}
theorem VRel.storable{v:AV}{c:Value}(h:VRel I w ρ v c)(hs:v.storable=true):c.oneCell'=true:=by
 cases v<;>simp[AV.storable]at hs<;>simp only[VRel]at h
 all_goals first
  |(subst h;rfl)
  |(obtain⟨_,rfl,_⟩:=h;rfl)
  |(obtain⟨_,_,rfl⟩:=h;rfl)
  |(obtain⟨_,_,rfl,_⟩:=h;rfl)
  |(obtain⟨_,_,_,rfl,_⟩:=h;rfl)
theorem VRel.cells{v:AV}{c:Value}(h:VRel I w ρ v c)(hj:v≠ .junk):VRels I w ρ v.cells c.cells.toList:=by
 cases v
 case junk=>exact absurd rfl hj
 case agg cs=>simp only[VRel]at h;obtain⟨aF,rfl,h⟩:=h;exact h
 all_goals
  have hc:c.cells = #[c]:=by
   simp only[VRel]at h
   first
    |(subst h;rfl)
    |(obtain⟨_,rfl,_⟩:=h;rfl)
    |(obtain⟨_,_,rfl⟩:=h;rfl)
    |(obtain⟨_,_,rfl,_⟩:=h;rfl)
    |(obtain⟨_,_,_,rfl,_⟩:=h;rfl)
  rw[hc];simp only[AV.cells,VRels];exact⟨c,[],rfl,h,rfl⟩
theorem VRels.storable:∀{vs:List AV} {cs:List Value},VRels I w ρ vs cs→vs.all AV.storable=true→∀c∈cs,c.oneCell'=true
 | [],cs,h,_=>by simp[VRels]at h;simp[h]
 |v::vs,cs,h,hs=>by
  simp only[VRels]at h;obtain⟨c,aF,rfl,h1,h2⟩:=h;simp only[List.all_cons,c11]at hs;intro x hx;simp only[e6v]at hx;rcases hx with rfl|hx
  ·exact VRel.storable h1 hs.1
  ·exact VRels.storable h2 hs.2 x hx
end
end Go.Ax
/- AxMem: loads, stores, new variables, rows and maps, addresses: what they do to abstract values, and that the model's operations do just that. -/
namespace Go.Ax
def Val(E:Env)(I K:Nat→Prop)(ρ:PMap)(h:FHeap)(n:Nat)(w:World)(s:Sem Value)(v:AV)(e:Eff):Prop:=∃c w' ρ',s.run E.P w = .ok c w'∧Stepped E.G I K ρ w I ρ' (h.eff n e) w'∧VRel I w' ρ' v c∧Moves ρ ρ' n e
def e1y(E:Env)(I K:Nat→Prop)(ρ:PMap)(h:FHeap)(n:Nat)(w:World)(s:Sem Unit)(e:Eff):Prop:=∃w' ρ',s.run E.P w = .ok () w'∧Stepped E.G I K ρ w I ρ' (h.eff n e) w'∧Moves ρ ρ' n e
section
variable {E:Env}{I K:Nat→Prop}{ρ:PMap}{h:FHeap}{n:Nat}{w:World}
theorem Val.quiet(r:HRel E.G I K ρ h w){s:Sem Value}{v:AV}{c:Value}{w':World}(hs:s.run E.P w = .ok c w')(hw:SameMem w w')(hv:VRel I w ρ v c) :
 Val E I K ρ h n w s v .none:=
 ⟨c,w',ρ,hs,Stepped.same r hw,VRel.mono (λ_ h=>h) (λ_ _=>by rw[hw.1]) v (λ_ _ h=>h) hv,Moves.same _ _ _⟩
theorem Val.here(r:HRel E.G I K ρ h w){s:Sem Value}{v:AV}{c:Value}(hs:s.run E.P w = .ok c w)(hv:VRel I w ρ v c):Val E I K ρ h n w s v .none:=Val.quiet r hs ⟨rfl,rfl,rfl,rfl⟩ hv
/-! ### loads -/
def a1z(E:Env)(t:TypeId)(cs:List AV):Option AV:=
 bif cs.length==E.sz t then
  match E.und t with
  |some d=>bif a1t d then some (.agg cs)else cs.head?
  |none=>none
 else none
def a5h(E:Env)(h:FHeap)(t:TypeId):AV→Option AV
 |.ptr b i o=>match h b with
  |some (.row _ aa)=>match aa[i]? with
   |some r=>a1z E t ((r.drop o).take (E.sz t))
   |none=>none
  |_=>none
 |.iptr cs=>a1z E t (cs.take (E.sz t))
 |_=>none
theorem a69(ok:EnvOk E){t:TypeId}{cs:List AV}{v:AV}{b off:Nat}{ρ:PMap}(hv:a1z E t cs=some v)(hc:VAt I w ρ cs b off) :
 ∃c,(loadVar t ⟨b,off,none⟩).run E.P w = .ok c w∧VRel I w ρ v c:=by
 unfold a1z at hv;rw[cond_eq_ite]at hv;split at hv
 case isFalse=>cases hv
 rename_i hl;have hl:cs.length=E.sz t:=by simpa using hl
 cases hd:E.und t with
 |none=>simp[hd]at hv
 |some d=>
  simp only[hd]at hv;obtain⟨cv,h1,h2⟩:=VAt.cells hc;have aj:cv.length=E.sz t:=by rw[←hl];exact(VRels.length h2).symm
  have oD:∀j:Nat,(⟨b,off,none⟩:Addr).add j=⟨b,off+j,none⟩:=by intro j;unfold Addr.add;split<;>simp_all
  unfold loadVar;simp only[Sem.run_bind,b1p ok w hd,Result.andThen_ok,Sem.run_ite];cases cV:a1t d with
  |true=>simp only[cV,e6m,Option.some.injEq]at hv;subst hv;have:=run_loadCells_list (P:=E.P) w ⟨b,off,none⟩ cv (λj v hj=>by rw[oD];exact h1 j v hj);rw[aj]at this;refine⟨.agg cv.toArray,?_,by simp only[VRel];exact⟨cv.toArray,rfl,by simpa using h2⟩⟩;simp[a2m ok w hd,this]
  |false=>
   simp only[cV,e6w]at hv;cases cs with
   |nil=>simp at hv
   |cons x cs=>simp at hv;subst hv;simp only[VRels]at h2;obtain⟨c,aF,rfl,h3,_⟩:=h2;have:=h1 0 c (by simp);refine⟨c,?_,h3⟩;simp at this;simp[this]
theorem d39(ok:EnvOk E)(r:HRel E.G I K ρ h w){t:TypeId}{p v:AV}{c:Value}(hl:a5h E h t p=some v)(hp:VRel I w ρ p c) :
 Val E I K ρ h n w (Instr.loadAt t c) v .none:=by
 cases p with
 |ptr b i o=>
  simp only[a5h]at hl;cases hb:h b with
  |none=>simp[hb]at hl
  |some ob=>
   cases ob with
   |row k aa=>
    simp only[hb]at hl;cases hr:aa[i]? with
    |none=>simp[hr]at hl
    |some rw'=>
     simp only[hr]at hl;obtain⟨m,hm,_,_,ho⟩:=r.live b _ hb;obtain⟨hk,hk0,_,aw⟩:=ho;obtain⟨aj,cA⟩:=VRows.get i aw hr;simp only[VRel]at hp;obtain⟨m',a9,rfl⟩:=hp;obtain rfl:m=m':=z9o (hm.symm.trans a9);by_cases bu:o≤rw'.length
     ·have gH:VAt I w ρ ((rw'.drop o).take (E.sz t)) m.blk (m.off+i*m.k+o):=by
       rw[hk];exact VAt.take _ (VAt.drop o bu cA)
      obtain⟨c,hc,hv⟩:=a69 ok hl gH;exact Val.here r (by simp[Instr.loadAt,Instr.sureAddr,hc]) hv
     ·have:rw'.drop o=[]:=e9v (by omega);rw[this]at hl;unfold a1z at hl;have hd:∀d,E.und t=some d→True:=λ_ _=>trivial;simp only[List.take_nil,e5r]at hl;rw[cond_eq_ite]at hl;split at hl
      ·rename_i h0;cases hd:E.und t with
       |none=>simp[hd]at hl
       |some d=>
        simp only[hd]at hl;have h0:E.sz t=0:=(show 0=E.sz t by simpa using h0).symm;cases cV:a1t d with
        |true=>simp[cV]at hl;subst hl;refine Val.here (c:=.agg #[]) r ?_ (by simp only[VRel];exact⟨#[],rfl,by simp[VRels]⟩);simp[Instr.loadAt,Instr.sureAddr,loadVar,b1p ok w hd,cV,a2m ok w hd,h0,loadCells,loadCellsFrom]
        |false=>simp[cV]at hl
      ·cases hl
   |map ks vs bs cl=>simp[hb]at hl
   |siter s pos=>simp[hb]at hl
   |uset ks=>simp[hb]at hl
   |miter ks b7 cD=>simp[hb]at hl
   |yloop y Fy st=>simp[hb]at hl
 |iptr cs=>simp only[a5h]at hl;simp only[VRel]at hp;obtain⟨b,off,rfl,hI,cA⟩:=hp;obtain⟨c,hc,hv⟩:=a69 ok hl (VAt.take _ cA);exact Val.here r (by simp[Instr.loadAt,Instr.sureAddr,hc]) (VRel.noRef_any hv)
 |_=>simp[a5h]at hl
/-! ### stores -/
def splice(r:List AV)(o:Nat)(cs:List AV):List AV:=r.take o++cs++r.drop (o+cs.length)
def a6u(E:Env)(h:FHeap)(t:TypeId)(p x:AV):Option Eff:=
 match p with
 |.ptr b i o=>match h b with
  |some (.row k aa)=>match aa[i]? with
   |some r=>bif x.cells.length==E.sz t&&(E.und t).isSome&&Nat.ble (o+x.cells.length) r.length&&x.cells.all AV.storable
    then some (.set b (.row k (aa.set i (splice r o x.cells))))else none
   |none=>none
  |_=>none
 |_=>none
theorem VRows.splice{k:Nat}{aa:List (List AV)}{blk off i o:Nat}{r cs:List AV}{w':World}(bP:∀c,I c→w'.heap[c]?=w.heap[c]?)
 (aw:VRows I w k ρ aa blk off)(hr:aa[i]?=some r)(ho:o+cs.length≤k)
 (ec:∀x,(x<off+i*k+o∨off+i*k+o+cs.length≤x)→w'.cell? ⟨blk,x,none⟩=w.cell? ⟨blk,x,none⟩)
 (aO:VAt I w' ρ cs blk (off+i*k+o)):VRows I w' k ρ (aa.set i (Ax.splice r o cs)) blk off:=by
 have hi:i<aa.length:=(e5k.1 hr).1;have jv:aa=aa.take i++r::aa.drop (i+1):=by
  conv=>lhs;rw[←f00 i aa]
  congr 1
  rw[List.drop_eq_getElem_cons hi]
  congr 1
  exact(e5k.1 hr).2
 have aC:aa.set i (Ax.splice r o cs)=aa.take i++Ax.splice r o cs::aa.drop (i+1):=by rw[List.set_eq_take_append_cons_drop,e6q hi]
 rw[aC];rw[jv]at aw;rw[VRows.append]at aw⊢;obtain⟨h1,h2⟩:=aw;have pc:(aa.take i).length=i:=by simp;omega
 simp only[VRows,pc]at h2⊢;obtain⟨h3,h4,h5⟩:=h2;have mono:=λ(vs:List AV) (b off:Nat) hc (hh:VAt I w ρ vs b off)=>VAt.mono_cells (I':=I) (w':=w') (ρ':=ρ) (λ_ h=>h) bP (λ_ _ h=>h) hc hh;refine⟨?_,?_,?_,?_⟩
 ·refine VRows.mono_cells (λ_ h=>h) bP (λ_ _ h=>h) (λj hj=>ec _ (.inl ?_)) h1;rw[pc]at hj;omega
 ·unfold Ax.splice;simp;omega
 ·unfold Ax.splice;rw[VAt.append,VAt.append];have jt:(r.take o).length=o:=by simp;omega
  refine⟨⟨?_,by rw[jt];exact aO⟩,?_⟩
  ·exact mono _ _ _ (λj hj=>ec _ (.inl (by rw[jt]at hj;omega))) (VAt.take o h4)
  ·have:=VAt.drop (o+cs.length) (by omega) h4;rw[e6k,jt,show off+i*k+(o+cs.length)=off+i*k+o+cs.length by omega];rw[show off+i*k+(o+cs.length)=off+i*k+o+cs.length by omega]at this;exact mono _ _ _ (λj hj=>ec _ (.inr (by omega))) this
 ·refine VRows.mono_cells (λ_ h=>h) bP (λ_ _ h=>h) (λj hj=>ec _ (.inr (by omega))) h5
theorem b5n{w:World}{blk o:Nat}{bD:Array Value}{e:TypeId}(cv:List Value)(hb:w.heap[blk]?=some (.cells bD e (0,0)))(bB:o+cv.length≤bD.size)
 (nD:∀c∈cv,c.oneCell'=true)(P:Program) :
 ∃w',(storeCells ⟨blk,o,none⟩ cv).run P w = .ok () w'∧(∃cJ,w'.heap[blk]?=some (.cells cJ e (0,0))∧cJ.size=bD.size)∧
  (∀c,c≠blk→w'.heap[c]?=w.heap[c]?)∧w'.heap.size=w.heap.size∧w'.tape=w.tape∧w'.os=w.os∧w'.output=w.output∧
  CellsAt w' cv blk o∧(∀x,(x<o∨o+cv.length≤x)→w'.cell? ⟨blk,x,none⟩=w.cell? ⟨blk,x,none⟩):=by
 refine⟨_,run_storeCells_at (P:=P) blk o e cv 0 bD w hb (by omega) nD,?_⟩;simp only[f03];generalize aO:(bD.toList.take o++cv++bD.toList.drop (o+cv.length)).toArray=cJ;have bu:cJ.size=bD.size:=by subst aO;simp;omega
 have hh:=setRow_heap w blk bD cJ e (0,0) hb;have a8:∀x,cJ[x]?=if x<o then bD[x]? else if x<o+cv.length then cv[x-o]? else bD[x]?:=by
  intro x;subst aO;have jt:(bD.toList.take o).length=o:=by simp;omega
  have gk:(bD.toList.take o++cv).length=o+cv.length:=by simp;omega
  rw[e83];by_cases h1:x<o
  ·rw[e4s,e6j (by rw[jt];omega)];simp[h1]
  ·by_cases h2:x<o+cv.length
   ·rw[e6j (by rw[gk];omega),e6p (by rw[jt];omega),jt];simp[h1,h2]
   ·rw[e6p (by rw[gk];omega),gk];simp only[List.getElem?_drop,e5s h1,e5s h2];rw[show o+cv.length+(x-(o+cv.length))=x by omega];simp
 refine⟨⟨cJ,hh,bu⟩,λc hc=>setRow_other w blk c cJ hc,setRow_size w blk cJ,rfl,rfl,rfl,?_,?_⟩
 ·refine CellsAt.of_heap hh (λj v hj=>?_);have bg:j<cv.length:=(e5k.1 hj).1;rw[a8,e5s (by omega),e6q (by omega),show o+j-o=j by omega];exact hj
 ·intro x hx;rw[a6l hh,a6l hb,a8];rcases hx with hx|hx
  ·rw[e6q hx]
  ·rw[e5s (by omega),e5s (by omega)]
theorem c8y(ok:EnvOk E)(r:HRel E.G I K ρ h w){t:TypeId}{p x:AV}{e:Eff}{c cx:Value}(hl:a6u E h t p x=some e)(hp:VRel I w ρ p c)(hx:VRel I w ρ x cx) :
 e1y E I K ρ h n w (Instr.storeAt t c cx) e:=by
 cases p with
 |ptr b i o=>
  simp only[a6u]at hl;cases hb:h b with
  |none=>simp[hb]at hl
  |some ob=>
   cases ob with
   |row k aa=>
    simp only[hb]at hl;cases hr:aa[i]? with
    |none=>simp[hr]at hl
    |some rr=>
     simp only[hr]at hl;rw[cond_eq_ite]at hl;split at hl
     case isFalse=>cases hl
     rename_i hc;simp only[c11,e9d,e8m]at hc;obtain⟨⟨⟨fV,fJ⟩,pO⟩,pN⟩:=hc;cases hl;obtain⟨d,hd⟩:=e4v.1 fJ;obtain⟨m,hm,cK,_,ho⟩:=r.live b _ hb;obtain⟨hk,hk0,⟨bD,el,dz,aW,bB⟩,aw⟩:=ho;obtain⟨aj,cA⟩:=VRows.get i aw hr;simp only[VRel]at hp;obtain⟨m',a9,rfl⟩:=hp;obtain rfl:m=m':=z9o (hm.symm.trans a9);have hj:x≠ .junk:=by rintro rfl;simp[AV.cells,AV.storable]at pN
     have cM:=VRel.cells hx hj;have kn:=VRels.length cM;have hi:i<aa.length:=(e5k.1 hr).1;have gZ:i*k+k≤aa.length*k:=by rw[←f0a];exact e8g k hi
     obtain⟨w',ae,⟨cJ,aR,fB⟩,bv,bu,ht,dL,aM,aO,bO⟩:=b5n (w:=w) (blk:=m.blk) (o:=m.off+i*k+o) cx.cells.toList dz
      (by rw[←kn];omega) (VRels.storable cM pN) E.P
     have bP:∀c,I c→w'.heap[c]?=w.heap[c]?:=λc hc=>bv c (λe=>cK (e▸hc));refine⟨w',ρ,?_,?_,Moves.same _ _ _⟩
     ·simp only[Instr.storeAt,Instr.sureAddr,storeVar,Sem.run_bind,Sem.run_pure,Result.andThen_ok,a2m ok w hd];have ns:cx.cells.size=E.sz t:=by rw[←fV,kn];simp
      simp only[ns,ne_eq,not_true_eq_false,e9z,hk];simpa using ae
     ·refine a1n r hb hm bu bv ht dL aM ?_;refine⟨hk,hk0,⟨cJ,el,aR,by omega,by simp only[e7y];omega⟩,?_⟩;refine VRows.splice bP aw hr (by rw[aj]at pO;exact pO) (λx hx=>bO x (by rw[←kn];exact hx)) ?_;exact VAt.of_cells aO (VRels.mono (λ_ h=>h) bP _ (λ_ _ h=>h) cM)
   |map ks vs bs cl=>simp[hb]at hl
   |siter s pos=>simp[hb]at hl
   |uset ks=>simp[hb]at hl
   |miter ks b7 cD=>simp[hb]at hl
   |yloop y Fy st=>simp[hb]at hl
 |_=>simp[a6u]at hl
/-! ### new blocks -/
theorem a8w(r:HRel E.G I K ρ h w)(hn:h n=none)(hρ:ρ n=none){el:TypeId}{k:Nat}(hk:0<k){aa:List (List AV)}{cells:Array Value}
 (aj:∀x∈aa,x.length=k)(hv:VRels I w ρ aa.flatten cells.toList){s:Sem Value}{v:AV}{mk:Addr→Value}{w0:World}(bZ:SameMem w w0)
 (hs:s.run E.P w = .ok (mk ⟨w.heap.size,0,none⟩) { w0 with heap:=w0.heap.push (.cells cells el) })
 (i3:∀w' ρ',ρ' n=some ⟨w.heap.size,0,k,cells.size⟩→VRel I w' ρ' v (mk ⟨w.heap.size,0,none⟩)) :
 Val E I K ρ h n w s v (.new (.row k aa)):=by
 have aC:=PMap.set_old (m:=⟨w.heap.size,0,k,cells.size⟩) hρ;have aJ:∀c,I c→({ w0 with heap:=w0.heap.push (.cells cells el) }:World).heap[c]?=w.heap[c]?:=by intro c hc;have:=r.imm c hc;show(w0.heap.push _)[c]?=_;rw[bZ.1,e9x,e5s (by omega)]
 have aO:({ w0 with heap:=w0.heap.push (.cells cells el) }:World).heap[w.heap.size]?=some (.cells cells el (0,0)):=by show(w0.heap.push _)[_]?=_;rw[bZ.1];simp
 refine⟨_,_,ρ.set n ⟨w.heap.size,0,k,cells.size⟩,hs,?_,i3 _ _ (by simp[PMap.set]),Moves.set _ _ _ rfl⟩;refine a1y (ob:=.cells cells el) r hn hρ (by show w0.heap.push _=_;rw[bZ.1]) bZ.2.1 bZ.2.2.1 bZ.2.2.2 rfl ?_;refine⟨rfl,hk,⟨cells,el,aO,rfl,?_⟩,?_⟩
 ·have:=VRels.length hv;rw[a0o aj]at this;simp at this;simp;omega
 ·rw[VRows.iff];refine⟨aj,VAt.of_cells (cs:=cells.toList) (CellsAt.of_heap aO (λj v hj=>by simpa using hj)) ?_⟩;exact VRels.mono (λ_ h=>h) aJ _ aC hv
theorem a3f(el:TypeId)(cells:Array Value)(w:World):(newRow el cells).run E.P w = .ok ⟨w.heap.size,0,none⟩ { w with heap:=w.heap.push (.cells cells el) }:=by simp[newRow]
def d7k(E:Env)(n:Nat)(t:TypeId):Option (AV×Eff):=
 match E.zero t with
 |some z=>bif Nat.blt 0 z.length then some (.ptr n 0 0,.new (.row z.length [z]))else none
 |none=>none
theorem d7j(ok:EnvOk E)(r:HRel E.G I K ρ h w)(hn:h n=none)(hρ:ρ n=none){t:TypeId}{v:AV}{e:Eff}(ha:d7k E n t=some (v,e))(old:Value) :
 Val E I K ρ h n w (Instr.alloc t true old) v e:=by
 unfold d7k at ha;cases hz:E.zero t with
 |none=>simp[hz]at ha
 |some z=>
  simp only[hz]at ha;rw[cond_eq_ite]at ha;split at ha
  case isFalse=>cases ha
  rename_i fE;cases ha;obtain⟨zv,dq,hl,bo⟩:=a68 ok w hz;refine a8w (el:=t) (cells:=zv.cells) (mk:=λa=>.pointer (some a)) r hn hρ (by simpa[e6u]using fE) (by simp) (by simpa using VRels.noRef_any (bo I w)) ⟨rfl,rfl,rfl,rfl⟩ ?_ ?_
  ·simp[Instr.alloc,dq,newVar,a3f]
  ·intro w' ρ' h';simp only[VRel];exact⟨_,h',by simp⟩
def d7w(n:Nat)(x:AV):Option (AV×Eff):=
 match x with
 |.junk=>none
 |x=>bif Nat.blt 0 x.cells.length then some (.ptr n 0 0,.new (.row x.cells.length [x.cells]))else none
theorem d7v(r:HRel E.G I K ρ h w)(hn:h n=none)(hρ:ρ n=none){t:TypeId}{x v:AV}{c:Value}{e:Eff}(ha:d7w n x=some (v,e))(hx:VRel I w ρ x c) :
 Val E I K ρ h n w (Instr.box t c) v e:=by
 have hj:x≠ .junk:=by rintro rfl;simp[d7w]at ha
 have mM:(bif Nat.blt 0 x.cells.length then some (AV.ptr n 0 0,Eff.new (.row x.cells.length [x.cells]))else none)=some (v,e):=by cases x<;>first|exact absurd rfl hj|exact ha
 rw[cond_eq_ite]at mM;split at mM
 case isFalse=>cases mM
 rename_i fE;cases mM;refine a8w (el:=t) (cells:=c.cells) (mk:=λa=>.pointer (some a)) r hn hρ (by simpa[e6u]using fE) (by simp) (by simpa using VRel.cells hx hj) ⟨rfl,rfl,rfl,rfl⟩ ?_ ?_
 ·simp[Instr.box,newVar,a3f]
 ·intro w' ρ' h';simp only[VRel];exact⟨_,h',by simp⟩
theorem d7l(r:HRel E.G I K ρ h w)(hn:h n=none)(hρ:ρ n=none){s:Sem Value}
 (hs:s.run E.P w = .ok (.map (some w.heap.size)) { w with heap:=w.heap.push (.map #[] 0) }):Val E I K ρ h n w s (.map n) (.new (.map [] [] [] 0)):=by
 refine⟨_,_,ρ.set n ⟨w.heap.size,0,0,0⟩,hs,?_,by simp only[VRel];exact⟨_,by simp[PMap.set];rfl,rfl⟩,Moves.set _ _ _ rfl⟩;refine a1y (ob:=.map #[] 0) r hn hρ rfl rfl rfl rfl rfl ?_;exact⟨#[],by simp,by simp[VRels],by simp[VRels],rfl⟩
end
end Go.Ax
/- AxAdr: addresses of fields and elements, parts of values, slices of slices and strings. -/
namespace Go.Ax
section
variable {E:Env}{I K:Nat→Prop}{ρ:PMap}{h:FHeap}{n:Nat}{w:World}
theorem VAt.drop'{vs:List AV}{b off:Nat}(i:Nat)(h:VAt I w ρ vs b off):VAt I w ρ (vs.drop i) b (off+i):=by
 by_cases hi:i≤vs.length
 ·exact VAt.drop i hi h
 ·rw[e9v (by omega)];simp[VAt]
theorem a3u(b o j:Nat):(⟨b,o,none⟩:Addr).add j=⟨b,o+j,none⟩:=by unfold Addr.add;split<;>simp_all
def a4z(E:Env)(s:TypeId)(p:AV)(f:Nat):Option AV:=
 match E.und s with
 |some (.struct fs)=>match fs[f]? with
  |some fd=>bif !(E.sz fd.type==0)&&(E.und fd.type).isSome then
   match p with
   |.ptr b i o=>some (.ptr b i (o+fd.offset))
   |.iptr cs=>some (.iptr (cs.drop fd.offset))
   |_=>none
   else none
  |none=>none
 |_=>none
theorem b74(ok:EnvOk E)(r:HRel E.G I K ρ h w){s:TypeId}{p v:AV}{f:Nat}{c:Value}(hl:a4z E s p f=some v)(hp:VRel I w ρ p c) :
 Val E I K ρ h n w (Instr.fieldAt s c f) v .none:=by
 unfold a4z at hl;cases hu:E.und s with
 |none=>simp[hu]at hl
 |some d=>
  cases d
  case struct fs=>
   simp only[hu]at hl;cases hf:fs[f]? with
   |none=>simp[hf]at hl
   |some fd=>
    simp only[hf]at hl;rw[cond_eq_ite]at hl;split at hl
    case isFalse=>cases hl
    rename_i hc;simp only[c11,e7z,e7r]at hc;obtain⟨hz,hs⟩:=hc;obtain⟨sG,lO⟩:=e4v.1 hs;have d9:∀b o:Nat,(fieldPlace ⟨b,o,none⟩ fd).run E.P w = .ok ⟨b,o+fd.offset,none⟩ w:=by intro b o;simp[fieldPlace,a2m ok w lO,hz,a3u]
    cases p with
    |ptr b i o=>simp only[Option.some.injEq]at hl;subst hl;simp only[VRel]at hp;obtain⟨m,hm,rfl⟩:=hp;refine Val.here (c:=.pointer (some ⟨m.blk,m.off+i*m.k+o+fd.offset,none⟩)) r ?_ (by simp only[VRel];exact⟨m,hm,by rw[Nat.add_assoc _ o]⟩);simp[Instr.fieldAt,a07 ok w hu,hf,Instr.sureAddr,d9]
    |iptr cs=>simp only[Option.some.injEq]at hl;subst hl;simp only[VRel]at hp;obtain⟨b,off,rfl,hI,cA⟩:=hp;refine Val.here (c:=.pointer (some ⟨b,off+fd.offset,none⟩)) r ?_ (by simp only[VRel];exact⟨b,_,rfl,hI,VAt.drop' _ cA⟩);simp[Instr.fieldAt,a07 ok w hu,hf,Instr.sureAddr,d9]
    |_=>simp at hl
  all_goals simp[hu]at hl
theorem a7t(ok:EnvOk E){t:TypeId}{cs:List AV}{cv:Array Value}{off:Nat}{v:AV}(hv:a1z E t ((cs.drop off).take (E.sz t))=some v)
 (hc:VRels I w ρ cs cv.toList):∃c,(part t cv off).run E.P w = .ok c w∧VRel I w ρ v c:=by
 unfold a1z at hv;rw[cond_eq_ite]at hv;split at hv
 case isFalse=>cases hv
 rename_i hl;have hl:((cs.drop off).take (E.sz t)).length=E.sz t:=by simpa using hl
 cases hd:E.und t with
 |none=>simp[hd]at hv
 |some d=>
  simp only[hd]at hv;unfold part;cases cV:a1t d with
  |true=>simp only[cV,e6m,Option.some.injEq]at hv;subst hv;refine⟨.agg (cv.extract off (off+E.sz t)),by simp[b1p ok w hd,cV,a2m ok w hd],?_⟩;simp only[VRel];refine⟨_,rfl,?_⟩;have:=VRels.take (E.sz t) (VRels.drop off hc);simpa[Array.toList_extract,List.extract_eq_take_drop,List.extract]using this
  |false=>
   simp only[cV,e6w]at hv;have hk:=VRels.take (E.sz t) (VRels.drop off hc);have h0:((cs.drop off).take (E.sz t))[0]?=some v:=by rw[←List.head?_eq_getElem?];exact hv
   obtain⟨c,cw,fO⟩:=VRels.get 0 hk h0;have:cv[off]?=some c:=by
    rw[e9i]at cw;split at cw
    ·simpa[List.getElem?_drop]using cw
    ·cases cw
   exact⟨c,by simp[b1p ok w hd,cV,this],fO⟩
theorem c6f(ok:EnvOk E)(r:HRel E.G I K ρ h w){t:TypeId}{cs:List AV}{cv:Array Value}{off:Nat}{v:AV}(hv:a1z E t ((cs.drop off).take (E.sz t))=some v)
 (hc:VRels I w ρ cs cv.toList):Val E I K ρ h n w (part t cv off) v .none:=by
 obtain⟨c,h1,h2⟩:=a7t ok hv hc;exact Val.here r h1 h2
def b5f(E:Env)(t:TypeId)(x:AV)(f:Nat):Option AV:=
 match E.und t,x with
 |some (.struct fs),.agg cs=>match fs[f]? with
  |some fd=>a1z E fd.type ((cs.drop fd.offset).take (E.sz fd.type))
  |none=>none
 |_,_=>none
theorem c9c(ok:EnvOk E)(r:HRel E.G I K ρ h w){t:TypeId}{x v:AV}{f:Nat}{c:Value}(hl:b5f E t x f=some v)(hx:VRel I w ρ x c) :
 Val E I K ρ h n w (Instr.field t c f) v .none:=by
 unfold b5f at hl;split at hl
 ·rename_i fs cs hu;cases hf:fs[f]? with
  |none=>simp[hf]at hl
  |some fd=>
   simp only[hf]at hl;simp only[VRel]at hx;obtain⟨cv,rfl,hc⟩:=hx;have ae:(Instr.field t (.agg cv) f).run E.P w=(part fd.type cv fd.offset).run E.P w:=by simp[Instr.field,a07 ok w hu,hf,asAgg]
   obtain⟨c,w',ρ',h1,h2⟩:=c6f ok (n:=n) r hl hc;exact⟨c,w',ρ',by rw[ae,h1],h2⟩
 ·cases hl
def c4q(x:AV)(len:Nat):Option Nat:=
 match x with
 |.int _ i=>bif decide (0≤i)&&decide (i<(len:Int))then some i.toNat else none
 |_=>none
theorem b3h{x:AV}{len j:Nat}{c:Value}(hi:c4q x len=some j)(hx:VRel I w ρ x c):∃k i,c = .int k i∧x = .int k i∧0≤i∧i<len∧i.toNat=j∧j<len:=by
 unfold c4q at hi;split at hi
 ·rename_i k i;rw[cond_eq_ite]at hi;split at hi
  ·rename_i hc;simp only[c11,e6l]at hc;simp only[VRel]at hx;cases hi;exact⟨k,i,hx,rfl,hc.1,hc.2,rfl,by omega⟩
  ·cases hi
 ·cases hi
def a0p(E:Env)(h:FHeap)(t:TypeId)(p ix:AV):Option AV:=
 match E.und t with
 |some (.array len ac)=>match c4q ix len with
  |some j=>bif (E.und ac).isSome then match p with
   |.ptr b i o=>some (.ptr b i (o+j*E.sz ac))
   |.iptr cs=>some (.iptr (cs.drop (j*E.sz ac)))
   |_=>none
   else none
  |none=>none
 |some (.slice ac)=>bif (E.und ac).isSome then match p with
  |.slice b off len _=>match c4q ix len with
   |some j=>match h b with
    |some (.row k _)=>bif k==E.sz ac then some (.ptr b (off+j) 0)else none
    |_=>none
   |none=>none
  |.islice aa _=>match c4q ix aa.length with
   |some j=>match aa[j]? with
    |some r=>bif r.length==E.sz ac then some (.iptr r)else none
    |none=>none
   |none=>none
  |_=>none
  else none
 |_=>none
theorem b73(ok:EnvOk E)(r:HRel E.G I K ρ h w){t:TypeId}{p ix v:AV}{c ci:Value}(hl:a0p E h t p ix=some v)(hp:VRel I w ρ p c)(hx:VRel I w ρ ix ci) :
 Val E I K ρ h n w (Instr.indexAt t c ci) v .none:=by
 unfold a0p at hl;split at hl
 ·rename_i len ac hu;cases hi:c4q ix len with
  |none=>simp[hi]at hl
  |some j=>
   simp only[hi]at hl;obtain⟨k,i,rfl,_,h0,h1,hj,bg⟩:=b3h hi hx;rw[cond_eq_ite]at hl;split at hl
   case isFalse=>cases hl
   rename_i he;obtain⟨de,bl⟩:=e4v.1 he;cases p with
   |ptr b i' o=>simp only[Option.some.injEq]at hl;subst hl;simp only[VRel]at hp;obtain⟨m,hm,rfl⟩:=hp;refine Val.here (c:=.pointer (some ⟨m.blk,m.off+i'*m.k+o+j*E.sz ac,none⟩)) r ?_ (by simp only[VRel];exact⟨m,hm,by rw[Nat.add_assoc _ o]⟩);simp[Instr.indexAt,asIntOf,a07 ok w hu,Instr.sureAddr,h0,h1,a2m ok w bl,hj,a3u]
   |iptr cs=>simp only[Option.some.injEq]at hl;subst hl;simp only[VRel]at hp;obtain⟨b,off,rfl,hI,cA⟩:=hp;refine Val.here (c:=.pointer (some ⟨b,off+j*E.sz ac,none⟩)) r ?_ (by simp only[VRel];exact⟨b,_,rfl,hI,VAt.drop' _ cA⟩);simp[Instr.indexAt,asIntOf,a07 ok w hu,Instr.sureAddr,h0,h1,a2m ok w bl,hj,a3u]
   |_=>simp at hl
 ·rename_i ac hu;rw[cond_eq_ite]at hl;split at hl
  case isFalse=>cases hl
  rename_i he;obtain⟨de,bl⟩:=e4v.1 he;cases p with
  |slice b off len cap=>
   simp only at hl;cases hi:c4q ix len with
   |none=>simp[hi]at hl
   |some j=>
    simp only[hi]at hl;obtain⟨k,i,rfl,_,h0,h1,hj,bg⟩:=b3h hi hx;cases hb:h b with
    |none=>simp[hb]at hl
    |some o=>
     cases o with
     |row kk aa=>
      simp only[hb]at hl;rw[cond_eq_ite]at hl;split at hl
      case isFalse=>cases hl
      rename_i hk;have hk:kk=E.sz ac:=by simpa using hk
      cases hl;obtain⟨m,hm,_,_,ho⟩:=r.live b _ hb;simp only[VRel]at hp;obtain⟨a,cc,rfl,bf,_,bI⟩:=hp;rcases bI with hz|⟨m',a9,rfl,_⟩
      ·omega
      obtain rfl:m=m':=z9o (hm.symm.trans a9);have i3:m.k=E.sz ac:=by rw[ho.1,hk]
      refine Val.here (c:=.pointer (some ⟨m.blk,m.off+off*m.k+j*m.k,none⟩)) r ?_ (by simp only[VRel];exact⟨m,hm,by rw[e8q];simp;omega⟩);simp[Instr.indexAt,asIntOf,a07 ok w hu,h0,h1,a2m ok w bl,hj,a3u,i3]
     |map ks vs bs cl=>simp[hb]at hl
     |siter s pos=>simp[hb]at hl
     |uset ks=>simp[hb]at hl
     |miter ks b7 cD=>simp[hb]at hl
     |yloop y Fy st=>simp[hb]at hl
  |islice aa cap=>
   simp only at hl;cases hi:c4q ix aa.length with
   |none=>simp[hi]at hl
   |some j=>
    simp only[hi]at hl;obtain⟨k,i,rfl,_,h0,h1,hj,bg⟩:=b3h hi hx;cases hr:aa[j]? with
    |none=>simp[hr]at hl
    |some rr=>
     simp only[hr]at hl;rw[cond_eq_ite]at hl;split at hl
     case isFalse=>cases hl
     rename_i hk;have hk:rr.length=E.sz ac:=by simpa using hk
     cases hl;simp only[VRel]at hp;obtain⟨a,cc,kk,rfl,bf,_,bI⟩:=hp;rcases bI with hz|⟨hs,hI,aw⟩
     ·subst hz;simp at bg
     obtain⟨aj,cA⟩:=VRows.get j aw hr;have ha:a=⟨a.block,a.off,none⟩:=by cases a;simp_all
     refine Val.here (c:=.pointer (some ⟨a.block,a.off+j*kk,none⟩)) r ?_ (by simp only[VRel];exact⟨_,_,rfl,hI,cA⟩);rw[ha];simp[Instr.indexAt,asIntOf,a07 ok w hu,h0,h1,a2m ok w bl,hj,a3u,←hk,aj]
  |_=>simp at hl
 ·cases hl
def b5e(E:Env)(t:TypeId)(x ix:AV):Option AV:=
 match E.und t,x with
 |some (.array len ac),.agg cs=>match c4q ix len with
  |some j=>bif (E.und ac).isSome then a1z E ac ((cs.drop (j*E.sz ac)).take (E.sz ac))else none
  |none=>none
 |some .string,.str s=>match c4q ix s.length with
  |some j=>match s[j]? with
   |some b=>some (.int .u8 b.toNat)
   |none=>none
  |none=>none
 |_,_=>none
theorem c8w(t:ByteArray)(i:Nat):t[i]?=t.data.toList[i]?:=by
 simp only[e8r];by_cases hi:i<t.size
 ·have h2:i<t.data.size:=hi;rw[getElem?_pos t i hi,getElem?_pos t.data i h2];rfl
 ·have h2:¬i<t.data.size:=hi;rw[getElem?_neg t i hi,getElem?_neg t.data i h2]
theorem c9b(ok:EnvOk E)(r:HRel E.G I K ρ h w){t:TypeId}{x ix v:AV}{c ci:Value}(hl:b5e E t x ix=some v)(hp:VRel I w ρ x c)(hx:VRel I w ρ ix ci) :
 Val E I K ρ h n w (Instr.index t c ci) v .none:=by
 unfold b5e at hl;split at hl
 ·rename_i len ac cs hu;cases hi:c4q ix len with
  |none=>simp[hi]at hl
  |some j=>
   simp only[hi]at hl;obtain⟨k,i,rfl,_,h0,h1,hj,bg⟩:=b3h hi hx;rw[cond_eq_ite]at hl;split at hl
   case isFalse=>cases hl
   rename_i he;obtain⟨de,bl⟩:=e4v.1 he;simp only[VRel]at hp;obtain⟨cv,rfl,hc⟩:=hp;have ae:(Instr.index t (.agg cv) (.int k i)).run E.P w=(part ac cv (j*E.sz ac)).run E.P w:=by simp[Instr.index,asIntOf,a07 ok w hu,h0,h1,a2m ok w bl,hj]
   obtain⟨c,w',ρ',h1,h2⟩:=c6f ok (n:=n) r hl hc;exact⟨c,w',ρ',by rw[ae,h1],h2⟩
 ·rename_i s hu;cases hi:c4q ix s.length with
  |none=>simp[hi]at hl
  |some j=>
   simp only[hi]at hl;obtain⟨k,i,rfl,_,h0,h1,hj,bg⟩:=b3h hi hx;simp only[VRel]at hp;obtain⟨tb,rfl,hs⟩:=hp;cases hb:s[j]? with
   |none=>simp[hb]at hl
   |some b=>
    simp only[hb,Option.some.injEq]at hl;subst hl;have:tb[i.toNat]?=some b:=by rw[c8w,hs,hj,hb]
    refine Val.here (c:=.int .u8 b.toNat) r ?_ (by simp[VRel]);simp[Instr.index,asIntOf,a07 ok w hu,h0,this]
 ·cases hl
/-! ### slicing -/
def a11(x:Option AV)(y:Nat)(d:Nat):Option Nat:=
 match x with
 |none=>some d
 |some (.int _ i)=>bif decide (0≤i)&&decide (i≤(y:Int))then some i.toNat else none
 |some _=>none
def a2s(I:Nat→Prop)(w:World)(ρ:PMap):Option AV→Option Value→Prop
 |none,c=>c=none
 |some v,c=>∃x,c=some x∧VRel I w ρ v x
theorem a46{x:Option AV}{c:Option Value}{y d j:Nat}(hb:a11 x y d=some j)(hx:a2s I w ρ x c)(y':Nat)(hy:y≤y')(code:BoundsCode) :
 (match c with|some v=>Instr.sliceBound v y' code|none=>pure d:Sem Nat).run E.P w = .ok j w∧(c.isSome=true→j≤y):=by
 unfold a11 at hb;split at hb
 ·simp only[a2s]at hx;subst hx;cases hb;simp
 ·rename_i k i;simp only[a2s,VRel]at hx;obtain⟨_,rfl,rfl⟩:=hx;rw[cond_eq_ite]at hb;split at hb
  ·rename_i hc;simp only[c11,e6l]at hc;cases hb;have:0≤i∧i≤(y':Int):=⟨hc.1,by omega⟩
   exact⟨by simp[Instr.sliceBound,asIntOf,this],λ_=>by omega⟩
  ·cases hb
 ·cases hb
end
end Go.Ax
/- AxSli: slices of slices and strings; composite values; rows that are c3t. -/
namespace Go.Ax
section
variable {E:Env}{I K:Nat→Prop}{ρ:PMap}{h:FHeap}{n:Nat}{w:World}
def a1h(len:Nat)(cap:Option Nat):Nat:=match cap with|some c=>c|none=>len
def a4p(E:Env)(h:FHeap)(t:TypeId)(x:AV)(lo hi mx:Option AV):Option AV:=
 match E.und t,x with
 |some .string,.str s=>
  match mx,a11 hi s.length s.length with
  |none,some j=>match a11 lo j 0 with
   |some l=>some (.str ((s.take j).drop l))
   |none=>none
  |_,_=>none
 |some (.slice ac),.slice b off len cap=>
  bif (E.und ac).isSome then
  match h b with
  |some (.row k _)=>bif k==E.sz ac then
   match mx with
   |none=>match a11 hi (a1h len cap) len with
    |some j=>match a11 lo j 0 with
     |some l=>some (.slice b (off+l) (j-l) (cap.map (·- l)))
     |none=>none
    |none=>none
   |some m=>match a11 (some m) (a1h len cap) 0 with
    |some mm=>match hi with
     |none=>none
     |some _=>match a11 hi mm 0 with
      |some j=>match a11 lo j 0 with
       |some l=>some (.slice b (off+l) (j-l) (some (mm-l)))
       |none=>none
      |none=>none
    |none=>none
   else none
  |_=>none
  else none
 |some (.slice ac),.islice aa cap=>
  bif (E.und ac).isSome&&aa.all (λr=>r.length==E.sz ac)then
   match mx with
   |none=>match a11 hi aa.length aa.length with
    |some j=>match a11 lo j 0 with
     |some l=>some (.islice ((aa.take j).drop l) (cap.map (·- l)))
     |none=>none
    |none=>none
   |some m=>match a11 (some m) aa.length 0 with
    |some mm=>match hi with
     |none=>none
     |some _=>match a11 hi mm 0 with
      |some j=>match a11 lo j 0 with
       |some l=>some (.islice ((aa.take j).drop l) (some (mm-l)))
       |none=>none
      |none=>none
    |none=>none
  else none
 |some (.slice ac),.nilslice=>
  bif (E.und ac).isSome then
  match mx with
  |none=>match a11 hi 0 0 with
   |some j=>match a11 lo j 0 with
    |some _=>some .nilslice
    |none=>none
   |none=>none
  |some m=>match a11 (some m) 0 0 with
   |some mm=>match hi with
    |none=>none
    |some _=>match a11 hi mm 0 with
     |some j=>match a11 lo j 0 with
      |some _=>some .nilslice
      |none=>none
     |none=>none
   |none=>none
  else none
 |_,_=>none
theorem b6x{lo hi:Option AV}{fb fx:Option Value}{ef jn j l:Nat}(hj:a11 hi ef jn=some j)(hl:a11 lo j 0=some l)
 (rh:a2s I w ρ hi fx)(rl:a2s I w ρ lo fb)(kO:Bool)(len cap:Nat)(aj:jn=len)(aY:ef≤cap)(si:jn≤ef) :
 (Instr.sliceBounds kO len cap fb fx none).run E.P w = .ok (l,j,cap) w∧l≤j∧j≤ef:=by
 subst aj;have ed:=a46 (E:=E) hl rl j (e6o _) .sliceB;have bg:l≤j:=by
  unfold a11 at hl;split at hl
  ·cases hl;omega
  ·rw[cond_eq_ite]at hl;split at hl
   ·rename_i hc;simp only[c11,e6l]at hc;cases hl;omega
   ·cases hl
  ·cases hl
 have q8:j≤ef:=by
  unfold a11 at hj;split at hj
  ·cases hj;omega
  ·rw[cond_eq_ite]at hj;split at hj
   ·rename_i hc;simp only[c11,e6l]at hc;cases hj;omega
   ·cases hj
  ·cases hj
 refine⟨?_,bg,q8⟩;unfold Instr.sliceBounds;cases kO
 ·have db:=a46 (E:=E) hj rh cap aY .sliceAlen;cases fx<;>cases fb<;>simp at db ed<;>simp[db,ed]
 ·have db:=a46 (E:=E) hj rh cap aY .sliceAcap;cases fx<;>cases fb<;>simp at db ed<;>simp[db,ed]
theorem c0v{lo hi:Option AV}{m:AV}{fb fx:Option Value}{cm:Value}{ef mm j l:Nat}(hm:a11 (some m) ef 0=some mm)(hj:a11 hi mm 0=some j)(hl:a11 lo j 0=some l)
 (rm:VRel I w ρ m cm)(rh:a2s I w ρ hi fx)(kq:hi.isSome=true)(rl:a2s I w ρ lo fb)(kO:Bool)(len cap:Nat)(aY:ef≤cap) :
 (Instr.sliceBounds kO len cap fb fx (some cm)).run E.P w = .ok (l,j,mm) w∧l≤j∧j≤mm∧mm≤ef:=by
 have ot:∃ch,fx=some ch:=by
  cases hi with
  |none=>simp at kq
  |some x=>simp only[a2s]at rh;obtain⟨y,h,_⟩:=rh;exact⟨y,h⟩
 obtain⟨ch,rfl⟩:=ot;have ed:=a46 (E:=E) hl rl j (e6o _) .slice3C;have db:=a46 (E:=E) hj rh mm (e6o _) .slice3B;have le:∀{x:Option AV} {y d z:Nat},a11 x y d=some z→d≤y→z≤y:=by
  intro x y d z hz hd;unfold a11 at hz;split at hz
  ·cases hz;omega
  ·rw[cond_eq_ite]at hz;split at hz
   ·rename_i hc;simp only[c11,e6l]at hc;cases hz;omega
   ·cases hz
  ·cases hz
 refine⟨?_,le hl (e5q _),le hj (e5q _),le hm (e5q _)⟩;unfold Instr.sliceBounds;cases kO
 ·have lA:=a46 (E:=E) (c:=some cm) hm (by simp only[a2s];exact⟨cm,rfl,rm⟩) cap aY .slice3Alen;cases fb<;>simp at lA db ed<;>simp[lA,db,ed]
 ·have lA:=a46 (E:=E) (c:=some cm) hm (by simp only[a2s];exact⟨cm,rfl,rm⟩) cap aY .slice3Acap;cases fb<;>simp at lA db ed<;>simp[lA,db,ed]
theorem a1k(ok:EnvOk E){t ac:TypeId}(hu:E.und t=some (.slice ac)){de:TypeDesc}(he:E.und ac=some de){a:Option Addr}{len cap l j m:Nat}{fb fx mj:Option Value}
 (hb:(Instr.sliceBounds true len cap fb fx mj).run E.P w = .ok (l,j,m) w) :
 (Instr.sliceAt t (.slice a len cap) fb fx mj).run E.P w = .ok (.slice (if m=l then a else a.map (·.add (l*E.sz ac))) (j-l) (m-l)) w:=by
 simp[Instr.sliceAt,a07 ok w hu,Instr.slice,hb,a2m ok w he]
theorem a5o(s:ByteArray)(l j:Nat):(s.extract l j).data.toList=(s.data.toList.take j).drop l:=by rw[ByteArray.data_extract,Array.toList_extract,List.extract_eq_take_drop];rw[List.drop_take]
theorem a82{b off len:Nat}{cap:Option Nat}{a:Addr}{c l j m:Nat}{k:Nat}{aa:List (List AV)}{gM:Option Nat}{sz:Nat}
 (r:HRel E.G I K ρ h w)(hb:h b=some (.row k aa))(hk:k=sz)(hp:VRel I w ρ (.slice b off len cap) (.slice (some a) len c))
 (qZ:l≤j)(q7:j≤m)(sf:m≤c)(aY:∀n,gM=some n→m-l=n) :
 VRel I w ρ (.slice b (off+l) (j-l) gM) (.slice (if m=l then some a else(some a).map (·.add (l*sz))) (j-l) (m-l)):=by
 simp only[VRel]at hp⊢;obtain⟨a',c',he,bf,hc,bI⟩:=hp;cases he;by_cases da:m=l
 ·rw[e6q da];exact⟨a,m-l,by simp,by omega,aY,.inl (by omega)⟩
 ·rw[e5s da];rcases bI with h0|⟨mm,e5,rfl,aW⟩
  ·omega
  ·obtain⟨m',a9,_,_,ho⟩:=r.live b _ hb;obtain rfl:mm=m':=z9o (e5.symm.trans a9);refine⟨_,m-l,rfl,by omega,aY,.inr ⟨mm,e5,?_,?_⟩⟩
   ·dsimp only;rw[a3u,ho.1,hk,e8q]
    congr 1;omega
   ·have:(off+l+(m-l))*mm.k≤(off+c)*mm.k:=e8g _ (by omega);omega
theorem a6x{aa:List (List AV)}{cap:Option Nat}{a:Addr}{c l j m sz:Nat}{gM:Option Nat}(aT:aa.all (λr=>r.length==sz)=true)
 (hp:VRel I w ρ (.islice aa cap) (.slice (some a) aa.length c))(qZ:l≤j)(q7:j≤m)(pB:j≤aa.length)(_:m≤c)(aY:∀n,gM=some n→m-l=n) :
 VRel I w ρ (.islice ((aa.take j).drop l) gM) (.slice (if m=l then some a else(some a).map (·.add (l*sz))) (j-l) (m-l)):=by
 simp only[VRel]at hp⊢;obtain⟨a',c',k,he,bf,hc,bI⟩:=hp;cases he;have aj:((aa.take j).drop l).length=j-l:=by simp;omega
 by_cases da:m=l
 ·rw[e6q da];refine⟨a,m-l,k,by rw[aj],by rw[aj];omega,aY,.inl ?_⟩;apply e9v;simp;omega
 ·rw[e5s da];refine⟨_,m-l,k,by rw[aj];rfl,by rw[aj];omega,aY,?_⟩;rcases bI with h0|⟨hs,hI,aw⟩
  ·left;subst h0;simp
  ·by_cases hr:aa=[]
   ·left;subst hr;simp
   ·right;have lG:k=sz:=by
     cases aa with
     |nil=>exact absurd rfl hr
     |cons r rs=>simp only[VRows]at aw;simp only[List.all_cons,c11,e9d]at aT;omega
    have ha:a=⟨a.block,a.off,none⟩:=by cases a;simp_all
    rw[ha];dsimp only;rw[a3u];refine⟨rfl,hI,?_⟩;have h2:l≤(aa.take j).length:=by simp;omega
    have:=VRows.drop l h2 (VRows.take j aw);rw[lG]at this⊢;exact this
theorem c8z(ok:EnvOk E)(r:HRel E.G I K ρ h w){t:TypeId}{x v:AV}{lo hi mx:Option AV}{c:Value}{fb fx mj:Option Value}(hl:a4p E h t x lo hi mx=some v)
 (hx:VRel I w ρ x c)(rl:a2s I w ρ lo fb)(rh:a2s I w ρ hi fx)(rm:a2s I w ρ mx mj):Val E I K ρ h n w (Instr.sliceAt t c fb fx mj) v .none:=by
 unfold a4p at hl;split at hl
 · -- strings
  rename_i s hu;split at hl
  ·rename_i j hj;simp only[a2s]at rm;subst rm;cases bM:a11 lo j 0 with
   |none=>simp[bM]at hl
   |some l=>
    simp only[bM,Option.some.injEq]at hl;subst hl;simp only[VRel]at hx;obtain⟨tb,rfl,hs⟩:=hx;have bu:tb.size=s.length:=by rw[←hs,e6t];rfl
    obtain⟨hb,h1,h2⟩:=b6x (E:=E) hj bM rh rl false tb.size tb.size bu.symm (by omega) (e6o _);refine Val.here (c:=.string (tb.extract l j)) r ?_ (by simp only[VRel];exact⟨_,rfl,by rw[a5o,hs]⟩);simp[Instr.sliceAt,a07 ok w hu,Instr.slice,hb]
  ·cases hl
 · -- a mutable block
  rename_i ac b off len cap hu;rw[cond_eq_ite]at hl;split at hl
  case isFalse=>cases hl
  rename_i he;obtain⟨de,bl⟩:=e4v.1 he;split at hl
  case h_2=>cases hl
  rename_i k aa hb;rw[cond_eq_ite]at hl;split at hl
  case isFalse=>cases hl
  rename_i hk;have hk:k=E.sz ac:=by simpa using hk
  have eN:=hx;simp only[VRel]at eN;obtain⟨a,cc,rfl,bf,aY,bI⟩:=eN;have ji:a1h len cap≤cc:=by unfold a1h;cases cap with|none=>exact bf|some c=>rw[aY c rfl];exact e6o _
  have lE:len≤a1h len cap:=by unfold a1h;cases cap with|none=>exact e6o _|some c=>rw[←aY c rfl];exact bf
  cases mx with
  |none=>
   simp only[a2s]at rm;subst rm;simp only at hl;cases hj:a11 hi (a1h len cap) len with
   |none=>simp[hj]at hl
   |some j=>
    simp only[hj]at hl;cases bM:a11 lo j 0 with
    |none=>simp[bM]at hl
    |some l=>
     simp only[bM,Option.some.injEq]at hl;subst hl;obtain⟨fu,h1,h2⟩:=b6x (E:=E) hj bM rh rl true len cc rfl ji lE;refine Val.here r (a1k ok hu bl fu) (a82 r hb hk hx h1 (by omega) (e6o _) ?_);intro q hq;cases cap with
     |none=>simp at hq
     |some c=>simp at hq;rw[aY c rfl];exact hq
  |some m=>
   simp only[a2s]at rm;obtain⟨cm,rfl,rm⟩:=rm;simp only at hl;cases e5:a11 (some m) (a1h len cap) 0 with
   |none=>simp[e5]at hl
   |some mm=>
    simp only[e5]at hl;cases hi with
    |none=>simp at hl
    |some hi=>
     simp only at hl;cases hj:a11 (some hi) mm 0 with
     |none=>simp[hj]at hl
     |some j=>
      simp only[hj]at hl;cases bM:a11 lo j 0 with
      |none=>simp[bM]at hl
      |some l=>simp only[bM,Option.some.injEq]at hl;subst hl;obtain⟨fu,h1,h2,h3⟩:=c0v (E:=E) e5 hj bM rm rh rfl rl true len cc ji;exact Val.here r (a1k ok hu bl fu) (a82 r hb hk hx h1 h2 (by omega) (λq hq=>by cases hq;rfl))
 · -- immutable memory
  rename_i ac aa cap hu;rw[cond_eq_ite]at hl;split at hl
  case isFalse=>cases hl
  rename_i he;simp only[c11]at he;obtain⟨de,bl⟩:=e4v.1 he.1;have eN:=hx;simp only[VRel]at eN;obtain⟨a,cc,kk,rfl,bf,aY,bI⟩:=eN;cases mx with
  |none=>
   simp only[a2s]at rm;subst rm;simp only at hl;cases hj:a11 hi aa.length aa.length with
   |none=>simp[hj]at hl
   |some j=>
    simp only[hj]at hl;cases bM:a11 lo j 0 with
    |none=>simp[bM]at hl
    |some l=>
     simp only[bM,Option.some.injEq]at hl;subst hl;obtain⟨fu,h1,h2⟩:=b6x (E:=E) hj bM rh rl true aa.length cc rfl bf (e6o _);refine Val.here r (a1k ok hu bl fu) (a6x he.2 hx h1 (by omega) h2 (e6o _) ?_);intro q hq;cases cap with
     |none=>simp at hq
     |some c=>simp at hq;rw[aY c rfl];exact hq
  |some m=>
   simp only[a2s]at rm;obtain⟨cm,rfl,rm⟩:=rm;simp only at hl;cases e5:a11 (some m) aa.length 0 with
   |none=>simp[e5]at hl
   |some mm=>
    simp only[e5]at hl;cases hi with
    |none=>simp at hl
    |some hi=>
     simp only at hl;cases hj:a11 (some hi) mm 0 with
     |none=>simp[hj]at hl
     |some j=>
      simp only[hj]at hl;cases bM:a11 lo j 0 with
      |none=>simp[bM]at hl
      |some l=>simp only[bM,Option.some.injEq]at hl;subst hl;obtain⟨fu,h1,h2,h3⟩:=c0v (E:=E) e5 hj bM rm rh rfl rl true aa.length cc bf;exact Val.here r (a1k ok hu bl fu) (a6x he.2 hx h1 h2 (by omega) (by omega) (λq hq=>by cases hq;rfl))
 · -- nil
  rename_i ac hu;rw[cond_eq_ite]at hl;split at hl
  case isFalse=>cases hl
  rename_i he;obtain⟨de,bl⟩:=e4v.1 he;simp only[VRel]at hx;subst hx;cases mx with
  |none=>
   simp only[a2s]at rm;subst rm;simp only at hl;cases hj:a11 hi 0 0 with
   |none=>simp[hj]at hl
   |some j=>
    simp only[hj]at hl;cases bM:a11 lo j 0 with
    |none=>simp[bM]at hl
    |some l=>
     simp only[bM,Option.some.injEq]at hl;subst hl;obtain⟨fu,h1,h2⟩:=b6x (E:=E) hj bM rh rl true 0 0 rfl (e6o _) (e6o _);obtain rfl:j=0:=by omega
     obtain rfl:l=0:=by omega
     exact Val.here (c:=.slice none 0 0) r (by rw[a1k ok hu bl fu];rfl) (by simp[VRel])
  |some m=>
   simp only[a2s]at rm;obtain⟨cm,rfl,rm⟩:=rm;simp only at hl;cases e5:a11 (some m) 0 0 with
   |none=>simp[e5]at hl
   |some mm=>
    simp only[e5]at hl;cases hi with
    |none=>simp at hl
    |some hi=>
     simp only at hl;cases hj:a11 (some hi) mm 0 with
     |none=>simp[hj]at hl
     |some j=>
      simp only[hj]at hl;cases bM:a11 lo j 0 with
      |none=>simp[bM]at hl
      |some l=>
       simp only[bM,Option.some.injEq]at hl;subst hl;obtain⟨fu,h1,h2,h3⟩:=c0v (E:=E) e5 hj bM rm rh rfl rl true 0 0 (e6o _);obtain rfl:mm=0:=by omega
       obtain rfl:j=0:=by omega
       obtain rfl:l=0:=by omega
       exact Val.here (c:=.slice none 0 0) r (by rw[a1k ok hu bl fu];rfl) (by simp[VRel])
 ·cases hl
end
end Go.Ax
/- AxMake: composite values, slice literals, make. -/
namespace Go.Ax
section
variable {E:Env}{I K:Nat→Prop}{ρ:PMap}{h:FHeap}{n:Nat}{w:World}
def AV.isJunk:AV→Bool
 |.junk=>true
 |_=>false
theorem AV.not_junk{v:AV}(h:v.isJunk=false):v≠ .junk:=by rintro rfl;simp[AV.isJunk]at h
def b08(dQ:Nat→Option (Nat×Nat))(cells:List AV):List (Nat×AV)→Option (List AV)
 | []=>some cells
 |(i,v)::ai=>match dQ i with
  |none=>none
  |some (off,size)=>bif !v.isJunk&&v.cells.length==size&&Nat.ble (off+size) cells.length then b08 dQ (splice cells off v.cells) ai else none
def a4t(I:Nat→Prop)(w:World)(ρ:PMap):List (Nat×AV)→List (Nat×Value)→Prop
 | [],l=>l=[]
 |(i,v)::r,l=>∃c r',l=(i,c)::r'∧VRel I w ρ v c∧a4t I w ρ r r'
def e1f(a:List Value)(off:Nat)(cs:List Value):List Value:=a.take off++cs++a.drop (off+cs.length)
theorem b8g(off:Nat):∀(cs:List Value) (j:Nat) (a:Array Value),off+j+cs.length≤a.size→
 (((cs.zipIdx j).foldl (λ(a:Array Value) (x:Value×Nat)=>a.setIfInBounds (off+x.2) x.1) a).toList=e1f a.toList (off+j) cs)
 | [],j,a,_=>by simp[e1f]
 |c::cs,j,a,hl=>by
  simp only[e5l]at hl;simp only[List.zipIdx_cons,List.foldl_cons];rw[b8g off cs (j+1) _ (by simp;omega)];unfold e1f;simp only[Array.toList_setIfInBounds,e5l];rw[show off+(j+1)=(off+j)+1 by omega,show(off+j)+(cs.length+1)=(off+j)+1+cs.length by omega];have ak:off+j<a.toList.length:=by simp;omega
  rw[List.take_succ_eq_append_getElem (by simpa using ak),List.take_set_of_le (e6o _),List.drop_set_of_lt (by omega)];simp
theorem VRels.splice{vs cs:List AV}{xs ys:List Value}{off:Nat}(h:VRels I w ρ vs xs)(k:VRels I w ρ cs ys):VRels I w ρ (Ax.splice vs off cs) (e1f xs off ys):=by unfold Ax.splice e1f;rw[VRels.length k];exact VRels.append (VRels.append (VRels.take off h) k) (VRels.drop _ h)
theorem b1f{dQ:Nat→Option (Nat×Nat)}:∀{ap:List (Nat×AV)} {cells ga:List AV} {cv:Array Value} {bC:List (Nat×Value)},
 b08 dQ cells ap=some ga→VRels I w ρ cells cv.toList→a4t I w ρ ap bC→∃fw,Instr.fill dQ cv bC=some fw∧VRels I w ρ ga fw.toList
 | [],cells,ga,cv,bC,hf,hc,hp=>by simp only[a4t]at hp;subst hp;simp only[b08,Option.some.injEq]at hf;subst hf;exact⟨cv,rfl,hc⟩
 |(i,v)::ai,cells,ga,cv,bC,hf,hc,hp=>by
  simp only[a4t]at hp;obtain⟨c,r',rfl,hv,hp⟩:=hp;simp only[b08]at hf;cases bV:dQ i with
  |none=>simp[bV]at hf
  |some os=>
   obtain⟨off,size⟩:=os;simp only[bV]at hf;rw[cond_eq_ite]at hf;split at hf
   case isFalse=>cases hf
   rename_i eC;simp only[c11,e7z,e9d,e8m]at eC;obtain⟨⟨hj,bu⟩,bB⟩:=eC;have cM:=VRel.cells hv (AV.not_junk hj);have kn:=VRels.length cM;have jI:=VRels.length hc;simp only[e6t]at kn jI;have lg:=b8g off c.cells.toList 0 cv (by simp;omega);simp only[f03]at lg;have aO:VRels I w ρ (splice cells off v.cells) ((c.cells.zipIdx.foldl (λcs (x:Value×Nat)=>cs.setIfInBounds (off+x.2) x.1) cv).toList):=by
    have e:(c.cells.zipIdx.foldl (λcs (x:Value×Nat)=>cs.setIfInBounds (off+x.2) x.1) cv) =
     (c.cells.toList.zipIdx.foldl (λcs (x:Value×Nat)=>cs.setIfInBounds (off+x.2) x.1) cv):=by
     rw[←Array.foldl_toList,Array.toList_zipIdx]
    rw[e,lg];exact VRels.splice hc cM
   obtain⟨fw,h1,h2⟩:=b1f hf aO hp;refine⟨fw,?_,h2⟩;simp only[Instr.fill,bV];have:¬((c.cells.size≠size||decide (off+c.cells.size>cv.size))=true):=by simp only[ne_eq,e9o,e6l,not_or];omega
   rw[e5s (by simpa using this)];exact h1
def b5j(E:Env)(t:TypeId)(ap:List (Nat×AV)):Option AV:=
 match E.zero t with
 |none=>none
 |some z=>match E.und t with
  |some (.struct fs)=>bif fs.toList.all (λf=>(E.und f.type).isSome)then
   match b08 (λi=>(fs[i]?).map λf=>(f.offset,E.sz f.type)) z ap with
   |some cs=>some (.agg cs)
   |none=>none
   else none
  |some (.array _ ac)=>bif (E.und ac).isSome then
   match b08 (λi=>some (i*E.sz ac,E.sz ac)) z ap with
   |some cs=>some (.agg cs)
   |none=>none
   else none
  |_=>none
theorem b49(ok:EnvOk E):∀(fs:List Field) (w:World),fs.all (λf=>(E.und f.type).isSome)=true→
 (fs.mapM (λf=>do pure (f.offset,←sizeOf f.type):Field→Sem (Nat×Nat))).run E.P w = .ok (fs.map λ(f:Field)=>(f.offset,E.sz f.type)) w
 | [],w,_=>by simp
 |f::fs,w,hf=>by simp only[List.all_cons,c11]at hf;obtain⟨d,hd⟩:=e4v.1 hf.1;have ih:=b49 ok fs w hf.2;simp only[List.mapM_cons,Sem.run_bind,a2m ok w hd,Result.andThen_ok,Sem.run_pure,ih,e4r]
theorem c9h(ok:EnvOk E)(r:HRel E.G I K ρ h w){t:TypeId}{ap:List (Nat×AV)}{bC:List (Nat×Value)}{v:AV}(hl:b5j E t ap=some v)(hp:a4t I w ρ ap bC) :
 Val E I K ρ h n w (Instr.build t bC.toArray) v .none:=by
 unfold b5j at hl;cases hz:E.zero t with
 |none=>simp[hz]at hl
 |some z=>
  simp only[hz]at hl;obtain⟨zv,dq,_,bo⟩:=a68 ok w hz;have bp:VRels I w ρ z zv.cells.toList:=VRels.noRef_any (bo I w);split at hl
  ·rename_i fs hu;rw[cond_eq_ite]at hl;split at hl
   case isFalse=>cases hl
   rename_i aT;split at hl
   case h_2=>cases hl
   rename_i cs hf;cases hl;obtain⟨fw,h1,h2⟩:=b1f hf bp hp;refine Val.here (c:=.agg fw) r ?_ (by simp only[VRel];exact⟨fw,rfl,h2⟩);have bV:=b49 ok fs.toList w aT;have hm:(fs.mapM (λf=>do pure (f.offset,←sizeOf f.type):Field→Sem (Nat×Nat))).run E.P w = .ok (fs.map λ(f:Field)=>(f.offset,E.sz f.type)) w:=by
    rw[Array.mapM_eq_mapM_toList,Sem.run_map,bV];simp only[Result.andThen_ok]
    congr 1
    apply e9w;simp
   have d9:(λ(i:Nat)=>(fs.map λ(f:Field)=>(f.offset,E.sz f.type))[i]?)=(λ(i:Nat)=>(fs[i]?).map λ(f:Field)=>(f.offset,E.sz f.type)):=by funext i;simp
   simp only[Instr.build,Sem.run_bind,dq,Result.andThen_ok,a07 ok w hu,hm,d9,h1,Sem.run_pure]
  ·rename_i m ac hu;rw[cond_eq_ite]at hl;split at hl
   case isFalse=>cases hl
   rename_i he;obtain⟨de,bl⟩:=e4v.1 he;split at hl
   case h_2=>cases hl
   rename_i cs hf;cases hl;obtain⟨fw,h1,h2⟩:=b1f hf bp hp;refine Val.here (c:=.agg fw) r ?_ (by simp only[VRel];exact⟨fw,rfl,h2⟩);simp only[Instr.build,Sem.run_bind,dq,Result.andThen_ok,a07 ok w hu,a2m ok w bl,h1,Sem.run_pure]
  ·cases hl
/-! ### rows of equal elements -/
theorem a2w{α:Type}[Inhabited α](zs:List α):∀c:Nat,((List.range (c*zs.length)).map λi=>zs[i%zs.length]!)=(List.replicate c zs).flatten
 |0=>by simp
 |c+1=>by
  rw[f0a,List.range_add,e6r,a2w zs c,List.replicate_succ',List.flatten_append]
  congr 1
  simp only[e9g,e80,List.flatten_nil,e4t];apply List.ext_getElem
  ·simp
  ·intro i h1 h2;simp only[List.getElem_map,List.getElem_range,Function.comp];rw[Nat.add_comm,Nat.add_mul_mod_self_right,Nat.mod_eq_of_lt h2];simp[h2]
theorem VRels.flatten_replicate{z:List AV}{zs:List Value}(hz:VRels I w ρ z zs):∀c,VRels I w ρ (List.replicate c z).flatten (List.replicate c zs).flatten
 |0=>by simp[VRels]
 |c+1=>by simp only[e8s,e80];exact VRels.append hz (VRels.flatten_replicate hz c)
def a3j(E:Env)(n:Nat)(t:TypeId)(len cap:AV):Option (AV×Eff):=
 match E.und t,len,cap with
 |some (.slice ac),.int _ l,.int _ c=>
  match E.zero ac with
  |some z=>bif decide (0≤l)&&decide (l≤c)&&decide (c≤281474976710656)&&decide ((E.bytes ac:Int)*c≤281474976710656)&&Nat.blt 0 z.length then
   some (.slice n 0 l.toNat (some c.toNat),.new (.row z.length (List.replicate c.toNat z)))else none
  |none=>none
 |_,_,_=>none
theorem a9j{x:Int}(h0:0≤x)(h1:x≤281474976710656):IntKind.i64.wrap x=x:=by simp[IntKind.wrap,IntKind.signed,IntKind.bits];omega
theorem b71(ok:EnvOk E)(r:HRel E.G I K ρ h w)(hn:h n=none)(hρ:ρ n=none){t:TypeId}{len cap v:AV}{e:Eff}{cl cc:Value}(ha:a3j E n t len cap=some (v,e))
 (aj:VRel I w ρ len cl)(aY:VRel I w ρ cap cc):Val E I K ρ h n w (Instr.makeSlice t cl cc) v e:=by
 unfold a3j at ha;split at ha
 ·rename_i ac k1 l k2 c hu;cases hz:E.zero ac with
  |none=>simp[hz]at ha
  |some z=>
   simp only[hz]at ha;rw[cond_eq_ite]at ha;split at ha
   case isFalse=>cases ha
   rename_i hc;simp only[c11,e6l,e6u]at hc;obtain⟨⟨⟨⟨h0,h1⟩,h2⟩,h3⟩,h4⟩:=hc;cases ha;simp only[VRel]at aj aY;subst aj aY;obtain⟨⟨de,bl⟩,_⟩:=ok.zero ac z hz;obtain⟨zv,dq,ff,bo⟩:=a68 ok w hz;have bH:=bo I w;have c5:=VRels.length bH;obtain⟨i,hi,re,rd⟩:=b12 ok w bl;have qA:IntKind.i64.wrap c=c:=a9j (by omega) h2;have o3:IntKind.i64.wrap l=l:=a9j h0 (by omega);have oA:(i.bytes:Int)*c≤281474976710656:=by rw[rd];exact h3
   have cz:(i.bytes:Int)*l≤281474976710656:=Int.le_trans (Int.mul_le_mul_of_nonneg_left h1 (by omega)) oA;have ek:∀w',(zeroValue ac).run E.P w' = .ok zv w':=by intro w';obtain⟨_,i',z',gz,dG,_⟩:=ok.zero ac z hz;have:=dq;simp[zeroValue,typeInfo,gz,dG]at this⊢;exact this
   refine a8w (el:=ac) (k:=z.length) (aa:=List.replicate c.toNat z) (cells:=(Array.range (c.toNat*E.sz ac)).map (λi=>zv.cells[i%zv.cells.size]!))
    (mk:=λa=>.slice (some a) l.toNat c.toNat) r hn hρ h4 (by intro x hx;rw[e7q hx]) ?_ ⟨rfl,rfl,rfl,rfl⟩ ?_ ?_
   ·rw[show((Array.range (c.toNat*E.sz ac)).map (λi=>zv.cells[i%zv.cells.size]!)).toList=(List.replicate c.toNat zv.cells.toList).flatten by
     rw[←a2w];simp only[e8w,Array.toList_range,e6t];rw[show E.sz ac=zv.cells.size by rw[←ff,c5];simp];apply e7k;intro a _;rw[Array.getElem!_toList]]
    exact VRels.flatten_replicate (VRels.noRef_any bH) _
   ·have lu:¬(c<0∨281474976710656<(i.bytes:Int)*c):=by omega
    have e1:(decide (c<0)||decide ((i.bytes:Int)*c>2^48)||decide (l<0)||decide (l>c))=false:=by simp only[Bool.or_eq_false_iff,decide_eq_false_iff_not];omega
    simp only[Instr.makeSlice,Sem.run_bind,a07 ok w hu,Result.andThen_ok,asInt,asIntOf,Sem.run_pure,hi,qA,o3];simp only[e1,e7w,e9z];by_cases bR:c.toNat*E.sz ac=0
    ·have:c.toNat=0:=by
      rcases Nat.mul_eq_zero.1 bR with h|h
      ·exact h
      ·omega
     have iX:∀f:Nat→Value,Array.map f (Array.range 0) = #[]:=by intro f;simp
     simp[a2m ok w bl,this,a3f];rw[iX,iX]
    ·simp[a2m ok w bl,bR,ek,a3f]
   ·intro w' ρ' h';simp only[VRel];exact⟨_,c.toNat,rfl,by omega,λq hq=>by cases hq;rfl,.inr ⟨_,h',by simp,by simp[ff]⟩⟩
 ·cases ha
def b3e(k:Nat)(aa:List (List AV)):List (Nat×AV)→Option (List (List AV))
 | []=>some aa
 |(i,v)::ai=>bif !v.isJunk&&v.cells.length==k&&Nat.blt i aa.length then b3e k (aa.set i v.cells) ai else none
theorem b2s{k:Nat}:∀(aa:List (List AV)) (i:Nat) (cs:List AV),(∀r∈aa,r.length=k)→cs.length=k→i<aa.length→(aa.set i cs).flatten=splice aa.flatten (i*k) cs
 | [],i,cs,_,_,hi=>by simp at hi
 |r::aa,0,cs,hr,hc,_=>by
  have:r.length=cs.length:=by rw[hr r (by simp),hc]
  simp[splice,←this]
 |r::aa,i+1,cs,hr,hc,hi=>by have hk:r.length=k:=hr r (by simp);have ih:=b2s aa i cs (λr gm=>hr r (by simp[gm])) hc (by simpa using hi);simp only[List.set_cons_succ,e80,ih];unfold splice;rw[f0a,List.take_append,List.drop_append];have e1:r.take (i*k+k)=r:=e5o (by omega);have e2:r.drop (i*k+k+cs.length)=[]:=e9v (by omega);rw[e1,e2];rw[show i*k+k-r.length=i*k by omega,show i*k+k+cs.length-r.length=i*k+cs.length by omega];simp
theorem b5d{k:Nat}(len:Nat):∀{ap:List (Nat×AV)} {aa ga:List (List AV)},b3e k aa ap=some ga→(∀r∈aa,r.length=k)→aa.length=len→
 b08 (λi=>some (i*k,k)) aa.flatten ap=some ga.flatten∧(∀r∈ga,r.length=k)∧ga.length=len
 | [],aa,ga,hf,hr,aj=>by simp only[b3e,Option.some.injEq]at hf;subst hf;exact⟨rfl,hr,aj⟩
 |(i,v)::ai,aa,ga,hf,hr,aj=>by
  simp only[b3e]at hf;rw[cond_eq_ite]at hf;split at hf
  case isFalse=>cases hf
  rename_i hc;simp only[c11,e7z,e9d,e6u]at hc;obtain⟨⟨hj,hk⟩,hi⟩:=hc;have ih:=b5d len hf (by
   intro r gm;rcases e9f gm with h|h
   ·exact hr r h
   ·rw[h,hk]) (by simpa using aj)
  refine⟨?_,ih.2⟩;simp only[b08];have cu:=a0o hr;have bB:Nat.ble (i*k+k) aa.flatten.length=true:=by rw[e8m,cu,←f0a];exact e8g k hi
  simp only[hj,hk,bB,Bool.not_false,beq_self_eq_true,e8h,e6m];rw[←b2s aa i v.cells hr hk hi];exact ih.1
def a2r(E:Env)(n:Nat)(t:TypeId)(len:Nat)(ap:List (Nat×AV)):Option (AV×Eff):=
 match E.und t with
 |some (.slice ac)=>match E.zero ac with
  |some z=>bif Nat.blt 0 z.length&&Nat.ble (len*z.length) 16777216 then
   match b3e z.length (List.replicate len z) ap with
   |some aa=>some (.slice n 0 len (some len),.new (.row z.length aa))
   |none=>none
   else none
  |none=>none
 |_=>none
theorem b3y(ok:EnvOk E)(r:HRel E.G I K ρ h w)(hn:h n=none)(hρ:ρ n=none){t:TypeId}{len:Nat}{ap:List (Nat×AV)}{bC:List (Nat×Value)}{v:AV}{e:Eff}
 (ha:a2r E n t len ap=some (v,e))(hp:a4t I w ρ ap bC):Val E I K ρ h n w (Instr.buildSlice t len bC.toArray) v e:=by
 unfold a2r at ha;split at ha
 ·rename_i ac hu;cases hz:E.zero ac with
  |none=>simp[hz]at ha
  |some z=>
   simp only[hz]at ha;rw[cond_eq_ite]at ha;split at ha
   case isFalse=>cases ha
   rename_i hc;simp only[c11,e6u,e8m]at hc;split at ha
   case h_2=>cases ha
   rename_i aa aw;cases ha;obtain⟨⟨de,bl⟩,_⟩:=ok.zero ac z hz;obtain⟨zv,dq,ff,bo⟩:=a68 ok w hz;have bH:=bo I w;have c5:=VRels.length bH;simp only[e6t]at c5;obtain⟨lN,i4,aj⟩:=b5d len aw (by intro x hx;rw[e7q hx]) (by simp);have jY:VRels I w ρ (List.replicate len z).flatten ((Array.range (len*E.sz ac)).map (λi=>zv.cells[i%zv.cells.size]!)).toList:=by rw[show((Array.range (len*E.sz ac)).map (λi=>zv.cells[i%zv.cells.size]!)).toList=(List.replicate len zv.cells.toList).flatten by rw[←a2w];simp only[e8w,Array.toList_range,e6t];rw[show E.sz ac=zv.cells.size by rw[←ff,c5]];apply e7k;intro a _;rw[Array.getElem!_toList]];exact VRels.flatten_replicate (VRels.noRef_any bH) _
   obtain⟨fw,h1,h2⟩:=b1f lN jY hp;refine a8w (el:=ac) (k:=z.length) (cells:=fw) (mk:=λa=>.slice (some a) len len) r hn hρ hc.1 i4 h2 ⟨rfl,rfl,rfl,rfl⟩ ?_ ?_
   ·have bf:¬(len*E.sz ac>2^24):=by rw[←ff];omega
    rw[ff]at h1;simp only[Instr.buildSlice,Sem.run_bind,a07 ok w hu,Result.andThen_ok,a2m ok w bl,bf,e9z];by_cases bR:len*E.sz ac=0
    ·have iX:∀f:Nat→Value,Array.map f (Array.range 0) = #[]:=by intro f;simp
     simp only[bR,e8f,iX]at h1⊢;simp[h1,a3f]
    ·simp only[bR,e9z,Sem.run_bind,dq,Result.andThen_ok,Sem.run_pure];simp[h1,a3f]
   ·intro w' ρ' h';simp only[VRel];exact⟨_,len,rfl,e6o _,λq hq=>by cases hq;rfl,.inr ⟨_,h',by simp,by
     have h3:len*z.length=fw.size:=by have:=VRels.length h2;rw[a0o i4,aj,e6t]at this;exact this
     show 0+(0+len)*z.length≤fw.size;rw[e7l,e7l,h3];exact e6o _⟩⟩
 ·cases ha
end
end Go.Ax
/- AxBin: arithmetic, comparisons, equality, conversions. -/
namespace Go.Ax
section
variable {E:Env}{I K:Nat→Prop}{ρ:PMap}{h:FHeap}{n:Nat}{w:World}
def c2l(op:BinOp)(k:IntKind)(a b:Int):Option AV:=
 match op with
 |.add=>some (.int k (k.wrap (a+b)))
 |.sub=>some (.int k (k.wrap (a-b)))
 |.mul=>some (.int k (k.wrap (a*b)))
 |.quo=>bif b==0 then none else some (.int k (k.wrap (a.tdiv b)))
 |.rem=>bif b==0 then none else some (.int k (a.tmod b))
 |.and=>some (.int k (k.wrap (BitVec.ofInt k.bits a&&&BitVec.ofInt k.bits b).toNat))
 |.or=>some (.int k (k.wrap (BitVec.ofInt k.bits a|||BitVec.ofInt k.bits b).toNat))
 |.xor=>some (.int k (k.wrap (BitVec.ofInt k.bits a^^^BitVec.ofInt k.bits b).toNat))
 |.andNot=>some (.int k (k.wrap (BitVec.ofInt k.bits a &&& ~~~ BitVec.ofInt k.bits b).toNat))
 |.eql=>some (.bool (a==b))
 |.neq=>some (.bool (a != b))
 |.lss=>some (.bool (decide (a<b)))
 |.leq=>some (.bool (decide (a≤b)))
 |.gtr=>some (.bool (decide (b<a)))
 |.geq=>some (.bool (decide (b≤a)))
 |_=>none
def d8y(op:BinOp)(a b:List UInt8):Option AV:=
 match op with
 |.add=>bif decide (a.length+b.length≤4611686018427387904)then some (.str (a++b))else none
 |.eql=>some (.bool (a==b))
 |.neq=>some (.bool (!(a==b)))
 |.lss=>some (.bool (Op.bytesLess a b))
 |.leq=>some (.bool (Op.bytesLess a b||a==b))
 |.gtr=>some (.bool (!(Op.bytesLess a b||a==b)))
 |.geq=>some (.bool (!(Op.bytesLess a b)))
 |_=>none
def a7m(E:Env)(eq:TypeId→AV→AV→Option Bool):List Field→List AV→List AV→Option Bool
 | [],_,_=>some true
 |f::fs,xs,ys=>
  match a1z E f.type ((xs.drop f.offset).take (E.sz f.type)),a1z E f.type ((ys.drop f.offset).take (E.sz f.type))with
  |some a,some b=>match eq f.type a b,a7m E eq fs xs ys with
   |some p,some q=>some (p&&q)
   |_,_=>none
  |_,_=>none
def a9g(E:Env)(eq:TypeId→AV→AV→Option Bool)(ac:TypeId)(xs ys:List AV):Nat→Nat→Option Bool
 |_,0=>some true
 |i,m+1=>
  match a1z E ac ((xs.drop (i*E.sz ac)).take (E.sz ac)),a1z E ac ((ys.drop (i*E.sz ac)).take (E.sz ac))with
  |some a,some b=>match eq ac a b,a9g E eq ac xs ys (i+1) m with
   |some p,some q=>some (p&&q)
   |_,_=>none
  |_,_=>none
def a61:TypeDesc→AV→Option Bool
 |.pointer _,.nilptr=>some true
 |.pointer _,.ptr ..=>some false
 |.pointer _,.iptr ..=>some false
 |.slice _,.nilslice=>some true
 |.slice _,.slice ..=>some false
 |.slice _,.islice ..=>some false
 |.map _ _,.nilmap=>some true
 |.map _ _,.map ..=>some false
 |.map _ _,.imap ..=>some false
 |.map _ _,.iset ..=>some false
 |.func _ _ _,.nilfunc=>some true
 |.func _ _ _,.func ..=>some false
 |_,_=>none
def a25:TypeDesc→AV→Bool
 |.pointer _,.nilptr=>true
 |.slice _,.nilslice=>true
 |.map _ _,.nilmap=>true
 |.func _ _ _,.nilfunc=>true
 |_,_=>false
def b3n:TypeDesc→Value
 |.pointer _=>.pointer none
 |.slice _=>.slice none 0 0
 |.map _ _=>.map none
 |_=>.nilFunc
def aeq(E:Env):Nat→TypeId→AV→AV→Option Bool
 |0,_,_,_=>none
 |d+1,t,x,y=>
  match E.und t,x,y with
  |some .bool,.bool a,.bool b=>some (a==b)
  |some (.int _),.int k a,.int k' b=>bif k==k' then some (a==b)else none
  |some .string,.str a,.str b=>some (a==b)
  |some (.struct fs),.agg xs,.agg ys=>bif E.eqok t then a7m E (aeq E d) fs.toList xs ys else none
  |some (.array len ac),.agg xs,.agg ys=>bif (E.und ac).isSome then a9g E (aeq E d) ac xs ys 0 len else none
  |some d,.nilptr,y=>bif a25 d .nilptr then a61 d y else none
  |some d,x,.nilptr=>bif a25 d .nilptr then a61 d x else none
  |some d,.nilslice,y=>bif a25 d .nilslice then a61 d y else none
  |some d,x,.nilslice=>bif a25 d .nilslice then a61 d x else none
  |some d,.nilmap,y=>bif a25 d .nilmap then a61 d y else none
  |some d,x,.nilmap=>bif a25 d .nilmap then a61 d x else none
  |some d,.nilfunc,y=>bif a25 d .nilfunc then a61 d y else none
  |some d,x,.nilfunc=>bif a25 d .nilfunc then a61 d x else none
  |some (.interface _),.nilifc,.iface _ _=>some false
  |some (.interface _),.iface _ _,.nilifc=>some false
  |some (.interface _),.iface t1 a,.iface t2 b=>bif t1==t2 then bif E.eqok t1 then aeq E d t1 a b else none else some false
  |_,_,_=>none
theorem b4a(ok:EnvOk E){eq:TypeId→Value→Value→Sem Bool}{fe:TypeId→AV→AV→Option Bool}
 (bW:∀t a b ca cb p,fe t a b=some p→VRel I w ρ a ca→VRel I w ρ b cb→(eq t ca cb).run E.P w = .ok p w)
 {xs ys:List AV}{cx cy:Array Value}(hx:VRels I w ρ xs cx.toList)(hy:VRels I w ρ ys cy.toList) :
 ∀(fs:List Field) (q:Bool),a7m E fe fs xs ys=some q→(∀f∈fs,f.name≠ "_")→
  (forIn fs ((none,()):Option Bool×Unit) (λf _=>
   if f.name≠ "_" then do
    let a←part f.type cx f.offset
    let b←part f.type cy f.offset
    let c←eq f.type a b
    if(!c)=true then pure (ForInStep.done (some false,()))else pure (ForInStep.yield (none,()))
   else pure (ForInStep.yield (none,())):Field→Option Bool×Unit→Sem (ForInStep (Option Bool×Unit)))).run E.P w
  = .ok (if q then(none,())else(some false,())) w
 | [],q,hq,_=>by simp only[a7m,Option.some.injEq]at hq;subst hq;simp
 |f::fs,q,hq,hn=>by
  simp only[a7m]at hq;split at hq
  case h_2=>cases hq
  rename_i a b ha hb;split at hq
  case h_2=>cases hq
  rename_i p q' hp fD;cases hq;obtain⟨ca,h1,h2⟩:=a7t ok ha hx;obtain⟨cb,h3,h4⟩:=a7t ok hb hy;have h5:=bW f.type a b ca cb p hp h2 h4;have ih:=b4a ok bW hx hy fs q' fD (λf hf=>hn f (by simp[hf]))
  have gr:f.name≠ "_" := hn f (by simp)
  rw[List.forIn_cons];simp only[ne_eq,gr,not_false_eq_true,e8f,Sem.run_bind,h1,h3,h5,Result.andThen_ok];cases p
  ·simp
  ·simp only[e9t,e7w,e9z,Sem.run_pure,Result.andThen_ok,e8p];exact ih
theorem b7p(ok:EnvOk E){eq:TypeId→Value→Value→Sem Bool}{fe:TypeId→AV→AV→Option Bool}{ac:TypeId}
 (bW:∀t a b ca cb p,fe t a b=some p→VRel I w ρ a ca→VRel I w ρ b cb→(eq t ca cb).run E.P w = .ok p w)
 {xs ys:List AV}{cx cy:Array Value}(hx:VRels I w ρ xs cx.toList)(hy:VRels I w ρ ys cy.toList) :
 ∀(m i:Nat) (q:Bool),a9g E fe ac xs ys i m=some q→
  (forIn (List.range' i m) ((none,()):Option Bool×Unit) (λi _=>do
   let a←part ac cx (i*E.sz ac)
   let b←part ac cy (i*E.sz ac)
   let c←eq ac a b
   if(!c)=true then pure (ForInStep.done (some false,()))else pure (ForInStep.yield (none,())):Nat→Option Bool×Unit→Sem (ForInStep (Option Bool×Unit)))).run E.P w
  = .ok (if q then(none,())else(some false,())) w
 |0,i,q,hq=>by simp only[a9g,Option.some.injEq]at hq;subst hq;simp
 |m+1,i,q,hq=>by
  simp only[a9g]at hq;split at hq
  case h_2=>cases hq
  rename_i a b ha hb;split at hq
  case h_2=>cases hq
  rename_i p q' hp fD;cases hq;obtain⟨ca,h1,h2⟩:=a7t ok ha hx;obtain⟨cb,h3,h4⟩:=a7t ok hb hy;have h5:=bW ac a b ca cb p hp h2 h4;have ih:=b7p ok bW hx hy m (i+1) q' fD;rw[List.range'_succ,List.forIn_cons];simp only[Sem.run_bind,h1,h3,h5,Result.andThen_ok];cases p
  ·simp
  ·simp only[e9t,e7w,e9z,Sem.run_pure,Result.andThen_ok,e8p];exact ih
section
variable {t:TypeId}{d:Nat}
theorem b6t{e:TypeId}(ht:(underlying t).run E.P w = .ok (.pointer e) w)(b:Option Addr):(Op.equalIn (d+1) t (.pointer none) (.pointer b)).run E.P w = .ok b.isNone w:=by unfold Op.equalIn;simp only[Sem.run_bind,ht,Result.andThen_ok];rfl
theorem b6s{e:TypeId}(ht:(underlying t).run E.P w = .ok (.pointer e) w)(b:Option Addr):(Op.equalIn (d+1) t (.pointer b) (.pointer none)).run E.P w = .ok b.isNone w:=by unfold Op.equalIn;simp only[Sem.run_bind,ht,Result.andThen_ok];cases b<;>rfl
theorem b05{e:TypeId}(ht:(underlying t).run E.P w = .ok (.slice e) w)(b:Option Addr)(l c:Nat):(Op.equalIn (d+1) t (.slice none 0 0) (.slice b l c)).run E.P w = .ok b.isNone w:=by unfold Op.equalIn;simp only[Sem.run_bind,ht,Result.andThen_ok];rfl
theorem b04{e:TypeId}(ht:(underlying t).run E.P w = .ok (.slice e) w)(b:Option Addr)(l c:Nat):(Op.equalIn (d+1) t (.slice b l c) (.slice none 0 0)).run E.P w = .ok b.isNone w:=by unfold Op.equalIn;simp only[Sem.run_bind,ht,Result.andThen_ok];cases b<;>rfl
theorem b1a{k e:TypeId}(ht:(underlying t).run E.P w = .ok (.map k e) w)(b:Option Nat):(Op.equalIn (d+1) t (.map none) (.map b)).run E.P w = .ok b.isNone w:=by unfold Op.equalIn;simp only[Sem.run_bind,ht,Result.andThen_ok];rfl
theorem b19{k e:TypeId}(ht:(underlying t).run E.P w = .ok (.map k e) w)(b:Option Nat):(Op.equalIn (d+1) t (.map b) (.map none)).run E.P w = .ok b.isNone w:=by unfold Op.equalIn;simp only[Sem.run_bind,ht,Result.andThen_ok];cases b<;>rfl
theorem b8i{ps rs:Array TypeId}{v:Bool}(ht:(underlying t).run E.P w = .ok (.func ps rs v) w):(Op.equalIn (d+1) t .nilFunc .nilFunc).run E.P w = .ok true w:=by unfold Op.equalIn;simp only[Sem.run_bind,ht,Result.andThen_ok];rfl
theorem c8f{ps rs:Array TypeId}{v:Bool}(ht:(underlying t).run E.P w = .ok (.func ps rs v) w)(f:Fn)(a b:Array Value):(Op.equalIn (d+1) t .nilFunc (.func f a b)).run E.P w = .ok false w:=by unfold Op.equalIn;simp only[Sem.run_bind,ht,Result.andThen_ok];rfl
theorem c8e{ps rs:Array TypeId}{v:Bool}(ht:(underlying t).run E.P w = .ok (.func ps rs v) w)(f:Fn)(a b:Array Value):(Op.equalIn (d+1) t (.func f a b) .nilFunc).run E.P w = .ok false w:=by unfold Op.equalIn;simp only[Sem.run_bind,ht,Result.andThen_ok];rfl
theorem c9e{dd:TypeDesc}{y:AV}{q:Bool}{c:Value}(ht:(underlying t).run E.P w = .ok dd w)(hq:a61 dd y=some q)(hy:VRel I w ρ y c) :
 (Op.equalIn (d+1) t (b3n dd) c).run E.P w = .ok q w∧(Op.equalIn (d+1) t c (b3n dd)).run E.P w = .ok q w:=by
 unfold a61 at hq;split at hq<;>cases hq<;>simp only[VRel]at hy<;>simp only[b3n]
 ·subst hy;exact⟨b6t ht _,b6s ht _⟩
 ·obtain⟨_,_,rfl⟩:=hy;exact⟨b6t ht _,b6s ht _⟩
 ·obtain⟨_,_,rfl,_⟩:=hy;exact⟨b6t ht _,b6s ht _⟩
 ·subst hy;exact⟨b05 ht _ _ _,b04 ht _ _ _⟩
 ·obtain⟨_,_,rfl,_⟩:=hy;exact⟨b05 ht _ _ _,b04 ht _ _ _⟩
 ·obtain⟨_,_,_,rfl,_⟩:=hy;exact⟨b05 ht _ _ _,b04 ht _ _ _⟩
 ·subst hy;exact⟨b1a ht _,b19 ht _⟩
 ·obtain⟨_,_,rfl⟩:=hy;exact⟨b1a ht _,b19 ht _⟩
 ·obtain⟨_,_,rfl,_⟩:=hy;exact⟨b1a ht _,b19 ht _⟩
 ·obtain⟨_,_,_,rfl,_⟩:=hy;exact⟨b1a ht _,b19 ht _⟩
 ·subst hy;exact⟨b8i ht,b8i ht⟩
 ·obtain⟨_,_,rfl,_⟩:=hy;exact⟨c8f ht _ _ _,c8e ht _ _ _⟩
theorem d2b(ht:(underlying t).run E.P w = .ok .bool w)(a b:Bool):(Op.equalIn (d+1) t (.bool a) (.bool b)).run E.P w = .ok (a==b) w:=by unfold Op.equalIn;simp only[Sem.run_bind,ht,Result.andThen_ok];rfl
theorem d72{k0:IntKind}(ht:(underlying t).run E.P w = .ok (.int k0) w)(k:IntKind)(a b:Int):(Op.equalIn (d+1) t (.int k a) (.int k b)).run E.P w = .ok (a==b) w:=by unfold Op.equalIn;simp only[Sem.run_bind,ht,Result.andThen_ok,e8f];rfl
theorem d71(ht:(underlying t).run E.P w = .ok .string w)(a b:ByteArray):(Op.equalIn (d+1) t (.string a) (.string b)).run E.P w = .ok (a==b) w:=by unfold Op.equalIn;simp only[Sem.run_bind,ht,Result.andThen_ok];rfl
theorem b55{ms:Array (String×TypeId)}(ht:(underlying t).run E.P w = .ok (.interface ms) w)(u:TypeId)(x:Value) :
 (Op.equalIn (d+1) t .nilIface (.iface u x)).run E.P w = .ok false w∧(Op.equalIn (d+1) t (.iface u x) .nilIface).run E.P w = .ok false w:=by
 unfold Op.equalIn;simp only[Sem.run_bind,ht,Result.andThen_ok];exact⟨rfl,rfl⟩
theorem c48{ms:Array (String×TypeId)}(ht:(underlying t).run E.P w = .ok (.interface ms) w)(u u':TypeId)(x x':Value)(az:u≠u') :
 (Op.equalIn (d+1) t (.iface u x) (.iface u' x')).run E.P w = .ok false w:=by
 unfold Op.equalIn;simp only[Sem.run_bind,ht,Result.andThen_ok,ne_eq,az,not_false_eq_true,e8f];rfl
theorem d73{ms:Array (String×TypeId)}{i:TypeInfo}(ht:(underlying t).run E.P w = .ok (.interface ms) w)(u:TypeId)(x x':Value)(hi:(typeInfo u).run E.P w = .ok i w)(hc:i.comparable=true) :
 (Op.equalIn (d+1) t (.iface u x) (.iface u x')).run E.P w=(Op.equalIn d u x x').run E.P w:=by
 conv=>lhs;unfold Op.equalIn
 simp only[Sem.run_bind,ht,Result.andThen_ok,ne_eq,not_true_eq_false,e9z,hi,hc,e9t,e7w]
end
theorem b39(a b:ByteArray):(a==b)=(a.data.toList==b.data.toList):=by have e:(a==b)=(a.data==b.data):=rfl;rw[e,f04];simp only[e9d,Array.toList_inj]
theorem c2m(ok:EnvOk E):∀(d:Nat) {t:TypeId} {x y:AV} {q:Bool} {cx cy:Value},aeq E d t x y=some q→VRel I w ρ x cx→VRel I w ρ y cy→
 ∀D,d≤D→(Op.equalIn D t cx cy).run E.P w = .ok q w
 |0,t,x,y,q,cx,cy,hq,hx,hy,D,hD=>by simp[aeq]at hq
 |d+1,t,x,y,q,cx,cy,hq,hx,hy,D,hD=>by
  obtain⟨D,rfl⟩:∃D',D=D'+1:=⟨D-1,by omega⟩
  unfold aeq at hq;have bw:∀{dd:TypeDesc} {z nz:AV} {c:Value},E.und t=some dd→(bif a25 dd nz then a61 dd z else none)=some q→VRel I w ρ z c→
   a25 dd nz=true∧(Op.equalIn (D+1) t (b3n dd) c).run E.P w = .ok q w∧(Op.equalIn (D+1) t c (b3n dd)).run E.P w = .ok q w:=by
   intro dd z nz c hu hb hz;cases hk:a25 dd nz with
   |false=>rw[hk]at hb;cases hb
   |true=>rw[hk,e6m]at hb;exact⟨rfl,c9e (a07 ok w hu) hb hz⟩
  have ei:∀{dd:TypeDesc},(a25 dd .nilptr=true→b3n dd = .pointer none)∧(a25 dd .nilslice=true→b3n dd = .slice none 0 0)∧
   (a25 dd .nilmap=true→b3n dd = .map none)∧(a25 dd .nilfunc=true→b3n dd = .nilFunc):=by
   intro dd;cases dd<;>simp[a25,b3n]
  split at hq
  ·rename_i hu;simp only[VRel]at hx hy;subst hx hy;cases hq;exact d2b (a07 ok w hu) _ _
  ·rename_i hu;simp only[VRel]at hx hy;subst hx hy;rw[cond_eq_ite]at hq;split at hq
   ·rename_i hk;cases hq;have hk:=eq_of_beq hk;subst hk;exact d72 (a07 ok w hu) _ _ _
   ·cases hq
  ·rename_i hu;simp only[VRel]at hx hy;obtain⟨a,rfl,ha⟩:=hx;obtain⟨b,rfl,hb⟩:=hy;cases hq;rw[d71 (a07 ok w hu),b39,ha,hb]
  ·rename_i fs xs ys hu;simp only[VRel]at hx hy;obtain⟨ax,rfl,hx⟩:=hx;obtain⟨ay,rfl,hy⟩:=hy;rw[cond_eq_ite]at hq;split at hq
   case isFalse=>cases hq
   rename_i he;obtain⟨_,aI,_,eY⟩:=ok.eqok t he;have hf:=b4a (I:=I) (w:=w) (ρ:=ρ) ok (eq:=Op.equalIn D) (fe:=aeq E d) (λt a b ca cb p hp h1 h2=>c2m ok d hp h1 h2 D (by omega)) hx hy fs.toList q hq (λf hf=>eY fs hu f hf);unfold Op.equalIn;simp only[Sem.run_bind,a07 ok w hu,Result.andThen_ok,run_program,aI,e7w,e9z];rw[←Array.forIn_toList];rw[hf];cases q<;>rfl
  ·rename_i len ac xs ys hu;simp only[VRel]at hx hy;obtain⟨ax,rfl,hx⟩:=hx;obtain⟨ay,rfl,hy⟩:=hy;rw[cond_eq_ite]at hq;split at hq
   case isFalse=>cases hq
   rename_i he;obtain⟨de,bl⟩:=e4v.1 he;have hf:=b7p (I:=I) (w:=w) (ρ:=ρ) ok (eq:=Op.equalIn D) (fe:=aeq E d) (ac:=ac) (λt a b ca cb p hp h1 h2=>c2m ok d hp h1 h2 D (by omega)) hx hy len 0 q hq;unfold Op.equalIn;simp only[Sem.run_bind,a07 ok w hu,Result.andThen_ok,a2m ok w bl];rw[Std.Legacy.Range.forIn_eq_forIn_range'];have bu:(Std.Legacy.Range.size [:len])=len:=by simp[Std.Legacy.Range.size]
   simp only[bu];rw[hf];cases q<;>rfl
  ·simp only[VRel]at hx;subst hx;obtain⟨h1,h2,_⟩:=bw (by assumption) hq hy;rw[ei.1 h1]at h2;exact h2
  ·simp only[VRel]at hy;subst hy;obtain⟨h1,_,h2⟩:=bw (by assumption) hq hx;rw[ei.1 h1]at h2;exact h2
  ·simp only[VRel]at hx;subst hx;obtain⟨h1,h2,_⟩:=bw (by assumption) hq hy;rw[ei.2.1 h1]at h2;exact h2
  ·simp only[VRel]at hy;subst hy;obtain⟨h1,_,h2⟩:=bw (by assumption) hq hx;rw[ei.2.1 h1]at h2;exact h2
  ·simp only[VRel]at hx;subst hx;obtain⟨h1,h2,_⟩:=bw (by assumption) hq hy;rw[ei.2.2.1 h1]at h2;exact h2
  ·simp only[VRel]at hy;subst hy;obtain⟨h1,_,h2⟩:=bw (by assumption) hq hx;rw[ei.2.2.1 h1]at h2;exact h2
  ·simp only[VRel]at hx;subst hx;obtain⟨h1,h2,_⟩:=bw (by assumption) hq hy;rw[ei.2.2.2 h1]at h2;exact h2
  ·simp only[VRel]at hy;subst hy;obtain⟨h1,_,h2⟩:=bw (by assumption) hq hx;rw[ei.2.2.2 h1]at h2;exact h2
  ·rename_i hu;simp only[VRel]at hx hy;subst hx;obtain⟨x',rfl,_⟩:=hy;cases hq;exact(b55 (a07 ok w hu) _ _).1
  ·rename_i hu;simp only[VRel]at hx hy;subst hy;obtain⟨x',rfl,_⟩:=hx;cases hq;exact(b55 (a07 ok w hu) _ _).2
  ·rename_i hu;simp only[VRel]at hx hy;obtain⟨x',rfl,hx⟩:=hx;obtain⟨y',rfl,hy⟩:=hy;rw[cond_eq_ite]at hq;split at hq
   ·rename_i he;have he:=eq_of_beq he;subst he;rw[cond_eq_ite]at hq;split at hq
    case isFalse=>cases hq
    rename_i hk;obtain⟨_,_,⟨i,hi,hc⟩,_⟩:=ok.eqok _ hk;rw[d73 (i:=i) (a07 ok w hu) _ _ _ (by simp[typeInfo,hi]) hc];exact c2m ok d hq hx hy D (by omega)
   ·rename_i az;cases hq;exact c48 (a07 ok w hu) _ _ _ _ (by simpa using az)
  ·cases hq
end
end Go.Ax
/- AxOp1: the model's binary and unary operations and conversions, against the abstract ones. -/
namespace Go.Ax
section
variable {E:Env}{I K:Nat→Prop}{ρ:PMap}{h:FHeap}{n:Nat}{w:World}
theorem d7o{op:BinOp}{k:IntKind}{a b:Int}{v:AV}(hv:c2l op k a b=some v)(t:TypeId)(hs:op≠ .shl∧op≠ .shr) :
 ∃c,(binOp op t (.int k a) (.int k b)).run E.P w = .ok c w∧VRel I w ρ v c:=by
 cases op<;>simp only[c2l]at hv
 case shl=>cases hv
 case shr=>cases hv
 case quo=>
  rw[cond_eq_ite]at hv;split at hv
  ·cases hv
  ·rename_i hb;cases hv;have hb:b≠0:=by simpa using hb
   exact⟨_,by simp[binOp,Op.intDiv,hb];rfl,by simp[VRel]⟩
 case rem=>
  rw[cond_eq_ite]at hv;split at hv
  ·cases hv
  ·rename_i hb;cases hv;have hb:b≠0:=by simpa using hb
   exact⟨_,by simp[binOp,Op.intDiv,hb];rfl,by simp[VRel]⟩
 all_goals cases hv
 all_goals exact⟨_,by simp[binOp,Op.intArith,Op.intBits,Op.intCmp];rfl,by simp[VRel]⟩
theorem d7c{op:BinOp}{a b:ByteArray}{v:AV}(hv:d8y op a.data.toList b.data.toList=some v)(t:TypeId) :
 ∃c,(binOp op t (.string a) (.string b)).run E.P w = .ok c w∧VRel I w ρ v c:=by
 have ta:=ByteArray.toList_eq a;have tb:=ByteArray.toList_eq b;cases op<;>simp only[d8y]at hv
 case add=>
  rw[cond_eq_ite]at hv;split at hv
  case isFalse=>cases hv
  rename_i hl;cases hv;have hl:a.data.toList.length+b.data.toList.length≤4611686018427387904:=by simpa using hl
  have h1:¬(((a.size+b.size:Nat):Int)>IntKind.i64.max):=by simp only[e6t]at hl;have:a.size=a.data.size:=rfl;have:b.size=b.data.size:=rfl;simp only[IntKind.max,IntKind.signed,IntKind.bits];simp;omega
  refine⟨.string (a++b),?_,by simp only[VRel];exact⟨_,rfl,by simp[ByteArray.data_append]⟩⟩;simp only[binOp,Op.stringOp,h1,e9z,Sem.run_pure]
 all_goals cases hv
 all_goals
  refine⟨_,by simp only[binOp,Op.stringOp,ta,tb,Sem.run_pure];rfl,by simp[VRel]⟩
def AV.eqShape:AV→Bool
 |.bool _|.nilptr|.nilslice|.nilmap|.nilfunc|.nilifc|.ptr ..|.iptr ..|.slice ..|.islice ..|.map ..|.imap ..|.iset _|.yfn _|.func ..|.iface ..|.agg ..=>true
 |_=>false
def b0b(E:Env)(op:BinOp)(t:TypeId)(x y:AV)(mZ:Bool):Option AV:=
 match op,x,y with
 |.shl,.int k a,.int _ b=>bif decide (b<0)then none else some (.int k (k.wrap (a*2^(min b.toNat k.bits))))
 |.shr,.int k a,.int _ b=>bif decide (b<0)then none else some (.int k (a.fdiv (2^(min b.toNat k.bits))))
 |op,.int k a,.int k' b=>bif k==k' then c2l op k a b else none
 |op,.str a,.str b=>d8y op a b
 |.eql,.nilifc,.nilifc=>match E.und t with|some (.interface _)=>bif mZ then some (.bool true)else none|_=>none
 |.neq,.nilifc,.nilifc=>match E.und t with|some (.interface _)=>bif mZ then some (.bool false)else none|_=>none
 |.eql,.agg a,.agg b=>bif E.eqok t then(aeq E 6 t (.agg a) (.agg b)).map .bool else none
 |.neq,.agg a,.agg b=>bif E.eqok t then(aeq E 6 t (.agg a) (.agg b)).map (λq=>.bool (!q))else none
 |.eql,x,y=>bif x.eqShape then(aeq E 6 t x y).map .bool else none
 |.neq,x,y=>bif x.eqShape then(aeq E 6 t x y).map (λq=>.bool (!q))else none
 |_,_,_=>none
def Value.eqShape:Value→Bool
 |.bool _|.pointer _|.slice ..|.map _|.func ..|.nilFunc|.iface ..|.nilIface|.agg _=>true
 |_=>false
theorem VRel.eqShape{x:AV}{c:Value}(hx:VRel I w ρ x c)(hs:x.eqShape=true):Value.eqShape c=true:=by
 cases x<;>simp[AV.eqShape]at hs<;>simp only[VRel]at hx
 all_goals first
  |(subst hx;rfl)
  |(obtain⟨_,rfl,_⟩:=hx;rfl)
  |(obtain⟨_,_,rfl⟩:=hx;rfl)
  |(obtain⟨_,_,rfl,_⟩:=hx;rfl)
  |(obtain⟨_,_,_,rfl,_⟩:=hx;rfl)
theorem b3b(t:TypeId)(cx cy:Value)(hs:Value.eqShape cx=true):binOp .eql t cx cy=(do pure (.bool (←Op.equal t cx cy))):=by cases cx<;>simp[Value.eqShape]at hs<;>first|rfl|(cases cy<;>rfl)
theorem b3a(t:TypeId)(cx cy:Value)(hs:Value.eqShape cx=true):binOp .neq t cx cy=(do pure (.bool (!(←Op.equal t cx cy)))):=by cases cx<;>simp[Value.eqShape]at hs<;>first|rfl|(cases cy<;>rfl)
def a7e:Value→Value→Bool
 |.nilIface,.nilIface=>false
 |.agg _,.agg _=>false
 |_,_=>true
theorem a6i(op:BinOp)(t:TypeId)(x y:Operand)(a b:Value)(hf:op≠ .eql∧op≠ .neq):(eqGuard op t x y a b).run E.P w = .ok () w:=by unfold eqGuard;cases op<;>first|rfl|(exact absurd rfl hf.1)|(exact absurd rfl hf.2)
theorem a3g(op:BinOp)(t:TypeId)(x y:Operand)(a b:Value)(hf:a7e a b=true):(eqGuard op t x y a b).run E.P w = .ok () w:=by
 by_cases cX:op≠ .eql∧op≠ .neq
 ·exact a6i op t x y a b cX
 ·have:op = .eql∨op = .neq:=by cases op<;>simp at cX⊢
  unfold a7e at hf;rcases this with rfl|rfl
  all_goals
   unfold eqGuard;simp only[e9t,e7w,e9z];split
   ·simp at hf
   ·simp at hf
   ·rfl
theorem b2z(ok:EnvOk E)(op:BinOp)(t:TypeId)(x y:Operand)(a b:Array Value)(hf:E.eqok t=true):(eqGuard op t x y (.agg a) (.agg b)).run E.P w = .ok () w:=by
 by_cases cX:op≠ .eql∧op≠ .neq
 ·exact a6i op t x y _ _ cX
 ·have:op = .eql∨op = .neq:=by cases op<;>simp at cX⊢
  rcases this with rfl|rfl
  all_goals
   unfold eqGuard;simp only[e9t,e7w,e9z,Sem.run_bind,run_program,Result.andThen_ok,(ok.eqok t hf).1,Bool.not_false,e8f];rfl
def a3t:Operand→Bool
 |.const _=>true
 |_=>false
theorem b2y(op:BinOp)(t:TypeId)(x y:Operand)(hc:(a3t x||a3t y)=true):(eqGuard op t x y .nilIface .nilIface).run E.P w = .ok () w:=by
 by_cases cX:op≠ .eql∧op≠ .neq
 ·exact a6i op t x y _ _ cX
 ·have:op = .eql∨op = .neq:=by cases op<;>simp at cX⊢
  rcases this with rfl|rfl
  all_goals
   unfold eqGuard;cases x<;>cases y<;>simp[a3t]at hc<;>rfl
theorem b0o(ok:EnvOk E){t:TypeId}{ms:Array (String×TypeId)}(hu:E.und t=some (.interface ms)):(Op.equal t .nilIface .nilIface).run E.P w = .ok true w:=by unfold Op.equal Op.maxDepth Op.equalIn;simp only[Sem.run_bind,a07 ok w hu,Result.andThen_ok];rfl
theorem b0n{x y:AV}{cx cy:Value}(hx:VRel I w ρ x cx)(hy:VRel I w ρ y cy)(hs:x.eqShape=true)(h1:¬(x = .nilifc∧(y = .nilifc∨y = .junk)))
 (h2:∀a,x = .agg a→(∀b,y≠ .agg b)∧y≠ .junk):a7e cx cy=true:=by
 have fm:=VRel.eqShape hx hs;cases x<;>simp[AV.eqShape]at hs<;>simp only[VRel]at hx
 case nilifc=>subst hx;cases cy<;>simp[a7e];cases y<;>simp only[VRel]at hy<;>first|(simp at hy;done)|(exact h1 ⟨rfl,by simp⟩)|(obtain⟨_,h,_⟩:=hy;simp at h;done)|(obtain⟨_,_,h⟩:=hy;simp at h;done)|(obtain⟨_,_,h,_⟩:=hy;simp at h;done)|(obtain⟨_,_,_,h,_⟩:=hy;simp at h;done)
 case agg a=>obtain⟨ca,rfl,_⟩:=hx;obtain⟨h3,h4⟩:=h2 a rfl;cases cy<;>simp[a7e];cases y<;>simp only[VRel]at hy<;>first|(simp at hy;done)|(exact h4 rfl)|(exact h3 _ rfl)|(obtain⟨_,h,_⟩:=hy;simp at h;done)|(obtain⟨_,_,h⟩:=hy;simp at h;done)|(obtain⟨_,_,h,_⟩:=hy;simp at h;done)|(obtain⟨_,_,_,h,_⟩:=hy;simp at h;done)
 all_goals first
  |(subst hx;rfl)
  |(obtain⟨_,rfl,_⟩:=hx;rfl)
  |(obtain⟨_,_,rfl⟩:=hx;rfl)
  |(obtain⟨_,_,rfl,_⟩:=hx;rfl)
  |(obtain⟨_,_,_,rfl,_⟩:=hx;rfl)
theorem a48{α β:Type}{x:Sem α}{y:Sem β}{a:α}{P:Program}{w w':World}(hx:x.run P w = .ok a w'):(do let _←x;y).run P w=y.run P w':=by simp[hx]
theorem a4i(ok:EnvOk E){t:TypeId}{x y:AV}{q:Bool}{cx cy:Value}(hq:aeq E 6 t x y=some q)(hx:VRel I w ρ x cx)(hy:VRel I w ρ y cy) :
 (Op.equal t cx cy).run E.P w = .ok q w:=c2m ok 6 hq hx hy 10000 (by omega)
theorem c2n{d:Nat}{t:TypeId}{x:AV}:aeq E d t x .junk=none:=by
 cases d with
 |zero=>rfl
 |succ d=>
  unfold aeq;split<;>first|rfl|skip
  all_goals simp_all[a61]
  all_goals (cases h:a25 _ _<;>simp[a61])
theorem d7y(ok:EnvOk E){op:BinOp}{t:TypeId}{x y v:AV}{xo yo:Operand}{cx cy:Value}(hv:b0b E op t x y (a3t xo||a3t yo)=some v)
 (hx:VRel I w ρ x cx)(hy:VRel I w ρ y cy):∃c,(do eqGuard op t xo yo cx cy;binOp op t cx cy).run E.P w = .ok c w∧VRel I w ρ v c:=by
 unfold b0b at hv;split at hv
 ·simp only[VRel]at hx hy;subst hx hy;rw[cond_eq_ite]at hv;split at hv
  ·cases hv
  ·rename_i hb;cases hv;rw[a48 (a3g _ _ _ _ _ _ rfl)];simp only[e6l]at hb;exact⟨_,by simp[binOp,Op.shift,hb];rfl,by simp[VRel]⟩
 ·simp only[VRel]at hx hy;subst hx hy;rw[cond_eq_ite]at hv;split at hv
  ·cases hv
  ·rename_i hb;cases hv;rw[a48 (a3g _ _ _ _ _ _ rfl)];simp only[e6l]at hb;exact⟨_,by simp[binOp,Op.shift,hb];rfl,by simp[VRel]⟩
 ·rename_i h1 h2;simp only[VRel]at hx hy;subst hx hy;rw[cond_eq_ite]at hv;split at hv
  case isFalse=>cases hv
  rename_i hk;have hk:=eq_of_beq hk;subst hk;rw[a48 (a3g _ _ _ _ _ _ rfl)];exact d7o hv t ⟨by rintro rfl;simp_all,by rintro rfl;simp_all⟩
 ·simp only[VRel]at hx hy;obtain⟨a,rfl,ha⟩:=hx;obtain⟨b,rfl,hb⟩:=hy;rw[a48 (a3g _ _ _ _ _ _ rfl)];subst ha hb;exact d7c hv t
 ·simp only[VRel]at hx hy;subst hx hy;split at hv
  case h_2=>cases hv
  rename_i ms hu;rw[cond_eq_ite]at hv;split at hv
  case isFalse=>cases hv
  rename_i hc;cases hv;rw[a48 (b2y _ _ _ _ hc),b3b _ _ _ rfl];exact⟨.bool true,by simp[b0o ok hu],by simp[VRel]⟩
 ·simp only[VRel]at hx hy;subst hx hy;split at hv
  case h_2=>cases hv
  rename_i ms hu;rw[cond_eq_ite]at hv;split at hv
  case isFalse=>cases hv
  rename_i hc;cases hv;rw[a48 (b2y _ _ _ _ hc),b3a _ _ _ rfl];exact⟨.bool false,by simp[b0o ok hu],by simp[VRel]⟩
 ·rename_i a b;rw[cond_eq_ite]at hv;split at hv
  case isFalse=>cases hv
  rename_i he;cases hq:aeq E 6 t (.agg a) (.agg b)with
  |none=>simp[hq]at hv
  |some q=>simp only[hq,e5p,Option.some.injEq]at hv;subst hv;have bW:=a4i ok hq hx hy;simp only[VRel]at hx hy;obtain⟨ca,rfl,_⟩:=hx;obtain⟨cb,rfl,_⟩:=hy;rw[a48 (b2z ok _ _ _ _ _ _ he),b3b _ _ _ rfl];exact⟨.bool q,by simp[bW],by simp[VRel]⟩
 ·rename_i a b;rw[cond_eq_ite]at hv;split at hv
  case isFalse=>cases hv
  rename_i he;cases hq:aeq E 6 t (.agg a) (.agg b)with
  |none=>simp[hq]at hv
  |some q=>simp only[hq,e5p,Option.some.injEq]at hv;subst hv;have bW:=a4i ok hq hx hy;simp only[VRel]at hx hy;obtain⟨ca,rfl,_⟩:=hx;obtain⟨cb,rfl,_⟩:=hy;rw[a48 (b2z ok _ _ _ _ _ _ he),b3a _ _ _ rfl];exact⟨.bool (!q),by simp[bW],by simp[VRel]⟩
 ·rename_i bF gX km iY;rw[cond_eq_ite]at hv;split at hv
  case isFalse=>cases hv
  rename_i he;cases hq:aeq E 6 t x y with
  |none=>simp[hq]at hv
  |some q=>
   simp only[hq,e5p,Option.some.injEq]at hv;subst hv;have bW:=a4i ok hq hx hy;have ew:y≠ .junk:=by rintro rfl;rw[c2n]at hq;cases hq
   have hg:=b0n hx hy he (by
    rintro⟨rfl,h|h⟩
    ·subst h;simp_all
    ·exact ew h) (by
    rintro a rfl
    exact⟨λb hb=>by subst hb;simp_all,ew⟩)
   rw[a48 (a3g _ _ _ _ _ _ hg),b3b _ _ _ (VRel.eqShape hx he)];exact⟨.bool q,by simp[bW],by simp[VRel]⟩
 ·rename_i bF gX km iY;rw[cond_eq_ite]at hv;split at hv
  case isFalse=>cases hv
  rename_i he;cases hq:aeq E 6 t x y with
  |none=>simp[hq]at hv
  |some q=>
   simp only[hq,e5p,Option.some.injEq]at hv;subst hv;have bW:=a4i ok hq hx hy;have ew:y≠ .junk:=by rintro rfl;rw[c2n]at hq;cases hq
   have hg:=b0n hx hy he (by
    rintro⟨rfl,h|h⟩
    ·subst h;simp_all
    ·exact ew h) (by
    rintro a rfl
    exact⟨λb hb=>by subst hb;simp_all,ew⟩)
   rw[a48 (a3g _ _ _ _ _ _ hg),b3a _ _ _ (VRel.eqShape hx he)];exact⟨.bool (!q),by simp[bW],by simp[VRel]⟩
 ·cases hv
def aun(op:UnOp)(x:AV):Option AV:=
 match op,x with
 |.neg,.int k a=>some (.int k (k.wrap (0-a)))
 |.not,.bool b=>some (.bool (!b))
 |.xor,.int k a=>some (.int k (k.wrap (BitVec.ofInt k.bits (if k.signed then -1 else k.max)^^^BitVec.ofInt k.bits a).toNat))
 |_,_=>none
theorem e1m{op:UnOp}{x v:AV}{c:Value}(hv:aun op x=some v)(hx:VRel I w ρ x c):∃d,(Op.unary op c).run E.P w = .ok d w∧VRel I w ρ v d:=by
 unfold aun at hv;split at hv
 all_goals first|(cases hv;done)|skip
 all_goals simp only[VRel]at hx;subst hx;cases hv
 ·exact⟨_,by simp[Op.unary,Op.intArith];rfl,by simp[VRel]⟩
 ·exact⟨_,by simp[Op.unary];rfl,by simp[VRel]⟩
 ·exact⟨_,by simp[Op.unary,Op.intBits];rfl,by simp[VRel]⟩
def d3e(E:Env)(gQ dst:TypeId)(x:AV):Option AV:=
 match E.und gQ,E.und dst,x with
 |some _,some (.int k),.int _ n=>some (.int k (k.wrap n))
 |some .string,some .string,.str s=>some (.str s)
 |_,_,_=>none
theorem d3d(ok:EnvOk E){gQ dst:TypeId}{x v:AV}{c:Value}(hv:d3e E gQ dst x=some v)(hx:VRel I w ρ x c):∃d,(convert gQ dst c).run E.P w = .ok d w∧VRel I w ρ v d:=by
 unfold d3e at hv;split at hv
 ·rename_i hs hd;simp only[VRel]at hx;subst hx;cases hv;exact⟨_,by simp[convert,a07 ok w hs,a07 ok w hd,Conv.intToInt];rfl,by simp[VRel]⟩
 ·rename_i hs hd;simp only[VRel]at hx;obtain⟨t,rfl,ht⟩:=hx;cases hv;exact⟨.string t,by simp[convert,a07 ok w hs,a07 ok w hd],by simp only[VRel];exact⟨t,rfl,ht⟩⟩
 ·cases hv
end
end Go.Ax
/- AxApp: append. -/
namespace Go.Ax
section
variable {E:Env}{I K:Nat→Prop}{ρ:PMap}{h:FHeap}{n:Nat}{w:World}
def a1o(h:FHeap)(k:Nat):AV→Option (List (List AV))
 |.nilslice=>some []
 |.islice aa _=>bif aa.all (λr=>r.length==k)then some aa else none
 |.slice b off len _=>match h b with
  |some (.row k' aa)=>bif k'==k&&Nat.ble (off+len) aa.length then some ((aa.drop off).take len)else none
  |_=>none
 |.str s=>bif k==1 then some (s.map λb=>[.int .u8 b.toNat])else none
 |_=>none
theorem a88:∀l:List UInt8,VRels I w ρ (l.map λb=>[AV.int .u8 b.toNat]).flatten (l.map λb=>Value.int .u8 b.toNat)
 | []=>by simp[VRels]
 |b::l=>by simp only[e4r,e80,e7p,e5m,VRels];exact⟨_,_,rfl,by simp[VRel],a88 l⟩
theorem SameMem.cell{w w':World}(s:SameMem w w')(a:Addr):w'.cell? a=w.cell? a:=by simp[World.cell?,s.1]
theorem a44(r:HRel E.G I K ρ h w){k:Nat}{x:AV}{xs:List (List AV)}{c:Value}(ha:a1o h k x=some xs)(hx:VRel I w ρ x c) :
 (Builtin.lenOf c).run E.P w = .ok xs.length w∧(∃cv:Array Value,(∀w',SameMem w w'→(Builtin.firstCells k xs.length c).run E.P w' = .ok cv w')∧VRels I w ρ xs.flatten cv.toList)∧∀r∈xs,r.length=k:=by
 unfold a1o at ha;split at ha
 ·cases ha;simp only[VRel]at hx;subst hx;exact⟨rfl,⟨#[],λ_ _=>rfl,by simp[VRels]⟩,by simp⟩
 ·rename_i aa cap;rw[cond_eq_ite]at ha;split at ha
  case isFalse=>cases ha
  rename_i aT;cases ha;simp only[e6x,e9d]at aT;simp only[VRel]at hx;obtain⟨a,cc,kk,rfl,bf,_,bI⟩:=hx;refine⟨rfl,?_,aT⟩;rcases bI with rfl|⟨hs,hI,aw⟩
  ·exact⟨#[],λw' _=>by simp[Builtin.firstCells,loadCells,loadCellsFrom],by simp[VRels]⟩
  ·rw[VRows.iff]at aw;obtain⟨cv,h1,h2⟩:=VAt.cells aw.2;have hl:cv.length=xs.length*k:=by rw[←VRels.length h2,a0o aT]
   have ha:a=⟨a.block,a.off,none⟩:=by cases a;simp_all
   refine⟨cv.toArray,λw' jq=>?_,by simpa using VRels.noRef_any h2⟩;have:=run_loadCells_list (P:=E.P) w' a cv (λj v hj=>by rw[ha,a3u,jq.cell];exact h1 j v hj);rw[hl]at this;simpa[Builtin.firstCells]using this
 ·rename_i b off len cap;split at ha
  case h_2=>cases ha
  rename_i k' aa hb;rw[cond_eq_ite]at ha;split at ha
  case isFalse=>cases ha
  rename_i hc;cases ha;simp only[c11,e9d,e8m]at hc;obtain⟨rfl,bB⟩:=hc;obtain⟨m,hm,_,_,ho⟩:=r.live b _ hb;obtain⟨hk,hk0,_,aw⟩:=ho;have aj:((aa.drop off).take len).length=len:=by simp;omega
  simp only[VRel]at hx;obtain⟨a,cc,rfl,bf,_,bI⟩:=hx;have be:=VRows.take len (VRows.drop off (by omega) aw);rw[VRows.iff]at be;refine⟨by simp[Builtin.lenOf,aj],?_,be.1⟩;rw[aj];rcases bI with rfl|⟨m',a9,rfl,aW⟩
  ·have:len=0:=by omega
   subst this;exact⟨#[],λw' _=>by simp[Builtin.firstCells,loadCells,loadCellsFrom],by simp[VRels]⟩
  ·obtain rfl:m=m':=z9o (hm.symm.trans a9);obtain⟨cv,h1,h2⟩:=VAt.cells be.2;have hl:cv.length=len*k':=by rw[←VRels.length h2,a0o be.1,aj]
   refine⟨cv.toArray,λw' jq=>?_,by simpa using h2⟩;have:=run_loadCells_list (P:=E.P) w' ⟨m.blk,m.off+off*m.k,none⟩ cv (λj v hj=>by rw[a3u,hk,jq.cell];exact h1 j v hj);rw[hl]at this;simpa[Builtin.firstCells]using this
 ·rename_i s;rw[cond_eq_ite]at ha;split at ha
  case isFalse=>cases ha
  rename_i hk;cases ha;have hk:k=1:=by simpa using hk
  subst hk;simp only[VRel]at hx;obtain⟨t,rfl,ht⟩:=hx;have bu:t.size=s.length:=by rw[←ht,e6t];rfl
  refine⟨by simp[Builtin.lenOf,bu],⟨_,λw' _=>by simp only[Builtin.firstCells,Sem.run_pure];rfl,?_⟩,by simp⟩;rw[e8w,a5o];simp only[e86,c10,ht,e82];exact a88 s
 ·cases ha
def a26:TypeDesc→Bool
 |.int _=>true
 |_=>false
def a23(E:Env)(ac:TypeId)(a8x:Nat):Bool:=decide (a8x≤17592186044416)&&decide (E.bytes ac*(2*a8x+192)≤281474976710656)
theorem b8e(a8x:Nat):∀(r c:Nat),c≤2*a8x+192→Builtin.growBy a8x r c≤2*a8x+192
 |0,c,h=>h
 |r+1,c,h=>by
  simp only[Builtin.growBy];split
  ·exact h
  ·rename_i hc;exact b8e a8x r _ (by omega)
theorem a78{a8x old:Nat}(h:old<a8x):Builtin.nextslicecap a8x old≤2*a8x+192:=by
 unfold Builtin.nextslicecap;split
 ·omega
 ·split
  ·omega
  ·exact b8e a8x 4 old (by omega)
theorem a47(z:Array Value)(m:Nat):(Builtin.zeroCells z m).toList=(List.replicate m z.toList).flatten:=by rw[←a2w];simp only[Builtin.zeroCells,e8w,Array.toList_range,e6t];apply e7k;intro a _;rw[Array.getElem!_toList]
theorem b1o(ok:EnvOk E){st xt ac:TypeId}{dx:TypeDesc}(hu:E.und st=some (.slice ac))(dB:E.und xt=some dx)(bi:a26 dx=false)
 {z:List AV}(hz:E.zero ac=some z){base:Option Addr}{aE bn m:Nat}{cx:Value}{old new:Array Value}(ty:TypeId)
 (aj:(Builtin.lenOf cx).run E.P w = .ok m w)(gq:bn<aE+m)(aW:a23 E ac (aE+m)=true)
 (aJ:∀w',SameMem w w'→(Builtin.firstCells (E.sz ac) aE (.slice base aE bn)).run E.P w' = .ok old w')
 (aO:∀w',SameMem w w'→(Builtin.firstCells (E.sz ac) m cx).run E.P w' = .ok new w') :
 ∃(aX:Nat) (zs:List Value) (w0:World),SameMem w w0∧aE+m≤aX∧zs.length=E.sz ac∧
  (Builtin.append_ #[st,xt] ty #[.slice base aE bn,cx]).run E.P w =
   .ok (.slice (some ⟨w.heap.size,0,none⟩) (aE+m) aX)
    { w0 with heap:=w0.heap.push (.cells (old++new++(List.replicate (aX-(aE+m)) zs).flatten.toArray) ac) }:=by
 obtain⟨⟨de,bl⟩,i',z',gz,dG,ii,ig⟩:=ok.zero ac z hz;simp only[a23,c11,e6l]at aW;have ek:∀w',(zeroValue ac).run E.P w' = .ok z' w':=by intro w';simp[zeroValue,typeInfo,gz,dG]
 have c5:z'.cells.toList.length=E.sz ac:=by rw[←ii,VRels.length (ig (λ_=>False) w)]
 obtain⟨i,hi,_,fR⟩:=b12 ok w bl;have ey:∀w',(typeInfo ac).run E.P w' = .ok i w':=by intro w';have:=hi;simp[typeInfo,gz]at this⊢;exact this
 have qr:∀w',(underlying xt).run E.P w' = .ok dx w':=λw'=>a07 ok w' dB;refine⟨aE+m+(w.tape w.drawn (.appendCap (aE+m) bn ac))%(2^63-(aE+m)),z'.cells.toList,{ w with drawn:=w.drawn+1 },⟨rfl,rfl,rfl,rfl⟩,by omega,c5,?_⟩;have bf:¬(aE+m≤bn):=by omega
 have aY:=a78 gq;have oN:¬(Builtin.nextslicecap (aE+m) bn*i.bytes>2^48):=by rw[fR];have:Builtin.nextslicecap (aE+m) bn*E.bytes ac≤(2*(aE+m)+192)*E.bytes ac:=e8g _ aY;rw[Nat.mul_comm (2*(aE+m)+192)]at this;omega
 have ip:¬(((aE+m:Nat):Int)>IntKind.i64.max):=by simp only[IntKind.max,IntKind.signed,IntKind.bits];simp;omega
 have px:¬((((aE+m:Nat):Int)>IntKind.i64.max)∧(False∨i.bytes=0)):=λhh=>ip hh.1;have lk:=aJ { w with drawn:=w.drawn+1 } ⟨rfl,rfl,rfl,rfl⟩;have ly:=aO { w with drawn:=w.drawn+1 } ⟨rfl,rfl,rfl,rfl⟩;have lu:∀k:IntKind,dx≠ .int k:=by rintro k rfl;simp[a26]at bi
 unfold Builtin.append_;simp only[e83,e7m,e7g,Sem.run_bind,a07 ok w hu,Result.andThen_ok,a2m ok w bl];simp only[qr w,Result.andThen_ok,Sem.run_pure];simp only[e7w,e9z,Sem.run_bind,aj,Result.andThen_ok,bf,ey,false_or,ip,false_and,oN,Bool.not_false,e8f,run_choose,run_askRoom,
  Question.forced,Question.cut,lk,ly,ek,a3f,Sem.run_pure]
 congr 4
 apply e9w;simp only[Array.toList_append,a47]
theorem a2o(ok:EnvOk E){st xt ac:TypeId}{dx de:TypeDesc}(hu:E.und st=some (.slice ac))(bl:E.und ac=some de)(dB:E.und xt=some dx)(bi:a26 dx=false)
 {base:Option Addr}{aE bn m:Nat}{cx:Value}{new:Array Value}(ty:TypeId){w':World}
 (aj:(Builtin.lenOf cx).run E.P w = .ok m w)(bf:aE+m≤bn)
 (aO:(Builtin.firstCells (E.sz ac) m cx).run E.P w = .ok new w)
 (aI:∀a,base=some a→(storeCells (a.add (aE*E.sz ac)) new.toList).run E.P w = .ok () w')(cO:base=none→w'=w) :
 (Builtin.append_ #[st,xt] ty #[.slice base aE bn,cx]).run E.P w = .ok (.slice base (aE+m) bn) w':=by
 have lu:∀k:IntKind,dx≠ .int k:=by rintro k rfl;simp[a26]at bi
 unfold Builtin.append_;simp only[e83,e7m,e7g,Sem.run_bind,a07 ok w hu,Result.andThen_ok,a2m ok w bl,a07 ok w dB,Sem.run_pure];simp only[e7w,e9z,Sem.run_bind,aj,Result.andThen_ok,bf,Bool.not_false,e8f,aO];cases base with
 |none=>simp[cO rfl]
 |some a=>simp[aI a rfl]
def a3v(E:Env)(h:FHeap)(n:Nat)(st xt:TypeId)(s x:AV):Option (AV×Eff):=
 match E.und st,E.und xt with
 |some (.slice ac),some dx=>
  bif a26 dx || !(E.zero ac).isSome || !(Nat.blt 0 (E.sz ac))then none else
  match a1o h (E.sz ac) x with
  |none=>none
  |some xs=>match s with
   |.nilslice=>match xs with
    | []=>some (.nilslice,.none)
    |y::ys=>bif a23 E ac (y::ys).length then some (.slice n 0 (y::ys).length none,.new (.row (E.sz ac) (y::ys)))else none
   |.islice aa cap=>bif aa.all (λr=>r.length==E.sz ac)then match xs with
    | []=>some (.islice aa cap,.none)
    |y::ys=>match cap with
     |some c=>bif Nat.blt c (aa.length+(y::ys).length)&&a23 E ac (aa.length+(y::ys).length)then
      some (.slice n 0 (aa.length+(y::ys).length) none,.new (.row (E.sz ac) (aa++(y::ys))))else none
     |none=>none
    else none
   |.slice b off len cap=>match h b with
    |some (.row kk aa)=>bif kk==E.sz ac&&Nat.ble (off+len) aa.length then
     match cap with
     |none=>bif a23 E ac (len+xs.length)&&xs.all (λr=>r.all AV.storable)then
      some (.slice n 0 (len+xs.length) none,.kill b (.row (E.sz ac) (bif Nat.beq (off+len) aa.length then aa.drop off++xs else(aa.drop off).take len++xs)))else none
     |some c=>bif Nat.ble (len+xs.length) c then
      bif Nat.ble (off+len+xs.length) aa.length&&xs.all (λr=>r.all AV.storable)then
       some (.slice b off (len+xs.length) (some c),.set b (.row (E.sz ac) (aa.take (off+len)++xs++aa.drop (off+len+xs.length))))else none
      else bif a23 E ac (len+xs.length)then
       some (.slice n 0 (len+xs.length) none,.new (.row (E.sz ac) ((aa.drop off).take len++xs)))else none
     else none
    |_=>none
   |_=>none
 |_,_=>none
theorem VRels.flat_append{as bs:List (List AV)}{xs ys:List Value}(h:VRels I w ρ as.flatten xs)(k:VRels I w ρ bs.flatten ys):VRels I w ρ (as++bs).flatten (xs++ys):=by rw[List.flatten_append];exact VRels.append h k
theorem b17(ok:EnvOk E)(r:HRel E.G I K ρ h w)(hn:h n=none)(hρ:ρ n=none){st xt ac:TypeId}{dx:TypeDesc}(hu:E.und st=some (.slice ac))(dB:E.und xt=some dx)
 (bi:a26 dx=false){z:List AV}(hz:E.zero ac=some z)(bu:0<E.sz ac){base:Option Addr}{aE bn m:Nat}{cx:Value}{old new:Array Value}(ty:TypeId){ss xs:List (List AV)}
 (aj:(Builtin.lenOf cx).run E.P w = .ok m w)(gq:bn<aE+m)(aW:a23 E ac (aE+m)=true)
 (aJ:∀w',SameMem w w'→(Builtin.firstCells (E.sz ac) aE (.slice base aE bn)).run E.P w' = .ok old w')
 (aO:∀w',SameMem w w'→(Builtin.firstCells (E.sz ac) m cx).run E.P w' = .ok new w')
 (pe:VRels I w ρ ss.flatten old.toList)(br:VRels I w ρ xs.flatten new.toList)(jw:∀r∈ss,r.length=E.sz ac)(dH:∀r∈xs,r.length=E.sz ac)
 (cU:ss.length=aE)(iN:xs.length=m){e:Eff}(he:e = .new (.row (E.sz ac) (ss++xs))∨∃b,e = .kill b (.row (E.sz ac) (ss++xs))) :
 Val E I K ρ h n w (Builtin.append_ #[st,xt] ty #[.slice base aE bn,cx]) (.slice n 0 (aE+m) none) e:=by
 obtain⟨aX,zs,w0,bZ,aY,ff,ae⟩:=b1o ok hu dB bi hz ty aj gq aW aJ aO;generalize bp:old++new++(List.replicate (aX-(aE+m)) zs).flatten.toArray=cells at ae;have ez:∀m,(List.replicate m zs).flatten.length=m*E.sz ac:=by
  intro m;induction m with
  |zero=>simp
  |succ m ih=>rw[e8s,e80,e6k,ih,ff,f0a,Nat.add_comm]
 have bQ:old.size=aE*E.sz ac:=by have:=VRels.length pe;rw[a0o jw,cU,e6t]at this;exact this.symm
 have cY:new.size=m*E.sz ac:=by have:=VRels.length br;rw[a0o dH,iN,e6t]at this;exact this.symm
 have aL:cells.size=aX*E.sz ac:=by
  subst bp;simp only[Array.size_append,bQ,cY,List.size_toArray,ez];rw[←e8q,←e8q]
  congr 1;omega
 have oZ:∀c,I c→({ w0 with heap:=w0.heap.push (.cells cells ac) }:World).heap[c]?=w.heap[c]?:=by intro c hc;have:=r.imm c hc;show(w0.heap.push _)[c]?=_;rw[bZ.1,e9x,e5s (by omega)]
 have eu:({ w0 with heap:=w0.heap.push (.cells cells ac) }:World).heap[w.heap.size]?=some (.cells cells ac (0,0)):=by show(w0.heap.push _)[_]?=_;rw[bZ.1];simp
 have aC:=PMap.set_old (m:=⟨w.heap.size,0,E.sz ac,cells.size⟩) hρ;have ho:ORel E.G I { w0 with heap:=w0.heap.push (.cells cells ac) } (ρ.set n ⟨w.heap.size,0,E.sz ac,cells.size⟩) ⟨w.heap.size,0,E.sz ac,cells.size⟩ (.row (E.sz ac) (ss++xs)):=by
  refine⟨rfl,bu,⟨cells,ac,eu,rfl,?_⟩,?_⟩
  ·show 0+(ss++xs).length*E.sz ac≤cells.size;rw[e6k,cU,iN,aL,e7l];exact e8g _ aY
  ·rw[VRows.iff];refine⟨by intro x hx;rcases e7h.1 hx with h|h;exact jw x h;exact dH x h,?_⟩;refine VAt.of_cells (cs:=(old++new).toList) (CellsAt.of_heap eu (λj v hj=>?_)) ?_
   ·subst bp;have i6:=(e5k.1 hj).1;simp only[e6t]at i6;rw[e7l,Array.getElem?_append_left i6,←e8r];exact hj
   ·rw[Array.toList_append];exact VRels.mono (λ_ h=>h) oZ _ aC (VRels.flat_append pe br)
 refine⟨_,_,ρ.set n ⟨w.heap.size,0,E.sz ac,cells.size⟩,ae,?_,?_,Moves.set _ _ _ (by rcases he with rfl|⟨b,rfl⟩<;>rfl)⟩
 ·rcases he with rfl|⟨b,rfl⟩
  ·exact a1y (ob:=.cells cells ac) r hn hρ (by show w0.heap.push _=_;rw[bZ.1]) bZ.2.1 bZ.2.2.1 bZ.2.2.2 rfl ho
  ·exact b0u (ob:=.cells cells ac) r hn hρ b (by show w0.heap.push _=_;rw[bZ.1]) bZ.2.1 bZ.2.2.1 bZ.2.2.2 rfl ho
 ·simp only[VRel];refine⟨_,aX,rfl,aY,(λq hq=>by cases hq),.inr ⟨_,by simp[PMap.set];rfl,by simp,?_⟩⟩;show 0+(0+aX)*E.sz ac≤cells.size;rw[aL,e7l,e7l];exact e6o _
theorem b4v(ok:EnvOk E)(r:HRel E.G I K ρ h w){st xt ac:TypeId}{dx de:TypeDesc}(hu:E.und st=some (.slice ac))(bl:E.und ac=some de)(dB:E.und xt=some dx)
 (bi:a26 dx=false){m:Pl}{b off aE bn nn:Nat}{aa xs:List (List AV)}{cx:Value}{new:Array Value}(ty:TypeId)
 (hb:h b=some (.row (E.sz ac) aa))(hm:ρ b=some m)(eU:off+aE≤aa.length)(aW:m.off+(off+bn)*m.k≤m.room)
 (aj:(Builtin.lenOf cx).run E.P w = .ok nn w)(bf:aE+nn≤bn)(aO:(Builtin.firstCells (E.sz ac) nn cx).run E.P w = .ok new w)
 (br:VRels I w ρ xs.flatten new.toList)(dH:∀r∈xs,r.length=E.sz ac)(iN:xs.length=nn)(aI:xs.all (λr=>r.all AV.storable)=true) :
 ∃w',(Builtin.append_ #[st,xt] ty #[.slice (some ⟨m.blk,m.off+off*m.k,none⟩) aE bn,cx]).run E.P w = .ok (.slice (some ⟨m.blk,m.off+off*m.k,none⟩) (aE+nn) bn) w'∧
  w'.heap.size=w.heap.size∧(∀c,c≠m.blk→w'.heap[c]?=w.heap[c]?)∧w'.tape=w.tape∧w'.os=w.os∧w'.output=w.output∧
  (∃bD e,w'.heap[m.blk]?=some (.cells bD e (0,0))∧bD.size=m.room)∧VRows I w' (E.sz ac) ρ (aa.take (off+aE)++xs) m.blk m.off∧
  (∀x,m.off+(off+aE+nn)*E.sz ac≤x→w'.cell? ⟨m.blk,x,none⟩=w.cell? ⟨m.blk,x,none⟩):=by
 obtain⟨m',a9,cK,_,ho⟩:=r.live b _ hb;obtain rfl:m=m':=z9o (hm.symm.trans a9);obtain⟨hk,hk0,⟨bD,el,dz,aL,_⟩,aw⟩:=ho;have cY:new.toList.length=nn*E.sz ac:=by have:=VRels.length br;rw[a0o dH,iN]at this;exact this.symm
 have ez:xs.flatten.all AV.storable=true:=by rw[e6x]at aI⊢;intro v hv;obtain⟨l,hl,dC⟩:=List.mem_flatten.1 hv;exact e6x.1 (aI l hl) v dC
 have l4:(⟨m.blk,m.off+off*m.k,none⟩:Addr).add (aE*E.sz ac)=⟨m.blk,m.off+(off+aE)*E.sz ac,none⟩:=by rw[a3u,hk,e8q,Nat.add_assoc]
 have bB:m.off+(off+aE)*E.sz ac+new.toList.length≤bD.size:=by rw[aL,cY,Nat.add_assoc,←e8q];rw[hk]at aW;have:(off+aE+nn)*E.sz ac≤(off+bn)*E.sz ac:=e8g _ (by omega);omega
 obtain⟨w',ae,⟨cJ,aR,fB⟩,bv,bu,ht,dL,aM,bp,bO⟩:=b5n (w:=w) (blk:=m.blk) (o:=m.off+(off+aE)*E.sz ac) new.toList dz bB (VRels.storable br ez) E.P;have bP:∀c,I c→w'.heap[c]?=w.heap[c]?:=λc hc=>bv c (λe=>cK (e▸hc));refine⟨w',?_,bu,bv,ht,dL,aM,⟨cJ,el,aR,by omega⟩,?_,?_⟩
 ·exact a2o ok hu bl dB bi ty aj bf aO (λa ha=>by cases ha;rw[l4];exact ae) (λh=>by cases h)
 ·rw[VRows.append];have dD:(aa.take (off+aE)).length=off+aE:=by simp;omega
  refine⟨?_,?_⟩
  ·refine VRows.mono_cells (λ_ h=>h) bP (λ_ _ h=>h) (λj hj=>bO _ (.inl ?_)) (VRows.take (off+aE) aw);rw[dD]at hj;omega
  ·rw[VRows.iff,dD];exact⟨dH,VAt.of_cells bp (VRels.mono (λ_ h=>h) bP _ (λ_ _ h=>h) br)⟩
 ·intro x hx;refine bO x (.inr ?_);rw[cY,Nat.add_assoc,←e8q];exact hx
theorem c4w(ok:EnvOk E)(r:HRel E.G I K ρ h w)(hn:h n=none)(hρ:ρ n=none){st xt:TypeId}{s x v:AV}{e:Eff}{cs cx:Value}(ty:TypeId)
 (ha:a3v E h n st xt s x=some (v,e))(hs:VRel I w ρ s cs)(hx:VRel I w ρ x cx):Val E I K ρ h n w (Builtin.append_ #[st,xt] ty #[cs,cx]) v e:=by
 unfold a3v at ha;split at ha
 case h_2=>cases ha
 rename_i ac dx hu dB;rw[cond_eq_ite]at ha;split at ha
 case isTrue=>cases ha
 rename_i hc;simp only[e9o,e7z,not_or,Bool.not_eq_true,Bool.not_eq_false,e6u]at hc;obtain⟨⟨bi,mq⟩,bu⟩:=hc;obtain⟨z,hz⟩:=e4v.1 mq;obtain⟨⟨de,bl⟩,_⟩:=ok.zero ac z hz;split at ha
 case h_1=>cases ha
 rename_i xs br;obtain⟨aj,⟨new,aO,im⟩,dH⟩:=a44 r br hx;have dU:=aO w ⟨rfl,rfl,rfl,rfl⟩;split at ha
 · -- nil
  simp only[VRel]at hs;subst hs;split at ha
  ·cases ha;refine Val.here (c:=.slice none 0 0) r ?_ (by simp[VRel]);exact a2o ok hu bl dB bi ty aj (by simp) dU (λa h=>by cases h) (λ_=>rfl)
  ·rename_i y ys;rw[cond_eq_ite]at ha;split at ha
   case isFalse=>cases ha
   rename_i aW;cases ha;have:=b17 (ss:=[]) (old:=#[]) (base:=none) (aE:=0) (bn:=0) (e:=.new (.row (E.sz ac) ([]++(y::ys)))) ok r hn hρ hu dB bi hz bu ty aj (by simp) (by simpa using aW)
    (λw' _=>rfl) aO (by simp[VRels]) im (by simp) dH rfl rfl (.inl rfl)
   simpa using this
 · -- immutable memory
  rename_i aa cap;rw[cond_eq_ite]at ha;split at ha
  case isFalse=>cases ha
  rename_i aT;have kZ:=hs;simp only[VRel]at kZ;obtain⟨a,cc,kk,rfl,bf,aY,bI⟩:=kZ;split at ha
  ·cases ha;refine Val.here r ?_ hs;have:=a2o ok hu bl dB bi (base:=some a) (aE:=aa.length) (bn:=cc) ty (w':=w) aj (by simpa using bf) dU (λa' h=>by
    have:new.toList=[]:=by have:=VRels.length im;simpa using this.symm
    rw[this];rfl) (λh=>by cases h)
   simpa using this
  ·rename_i y ys;split at ha
   case h_2=>cases ha
   rename_i c;rw[cond_eq_ite]at ha;split at ha
   case isFalse=>cases ha
   rename_i aW;cases ha;simp only[c11,e6u]at aW;obtain⟨_,⟨old,aJ,il⟩,jw⟩:=a44 (k:=E.sz ac) (xs:=aa) r (by simp only[a1o,aT,e6m]) hs;have cw:=aY c rfl;exact b17 ok r hn hρ hu dB bi hz bu ty aj (by omega) aW.2 aJ aO il im jw dH rfl rfl (.inl rfl)
 · -- a mutable block
  rename_i b off len cap;split at ha
  case h_2=>cases ha
  rename_i kk aa hb;rw[cond_eq_ite]at ha;split at ha
  case isFalse=>cases ha
  rename_i cw;simp only[c11,e9d,e8m]at cw;obtain⟨rfl,bB⟩:=cw;have kZ:=hs;simp only[VRel]at kZ;obtain⟨a,c,rfl,bf,aY,bI⟩:=kZ;obtain⟨pf,⟨old,aJ,il⟩,jw⟩:=a44 (k:=E.sz ac) (xs:=(aa.drop off).take len) r (by simp only[a1o,hb,beq_self_eq_true,e8p,Nat.ble_eq_true_of_le bB,e6m]) hs;have cU:((aa.drop off).take len).length=len:=by simp;omega
  rw[cU]at aJ;split at ha
  · -- capacity unknown
   rw[cond_eq_ite]at ha;split at ha
   case isFalse=>cases ha
   rename_i aT;cases ha;simp only[c11]at aT;obtain⟨aW,aI⟩:=aT;have hR:(bif Nat.beq (off+len) aa.length then aa.drop off++xs else(aa.drop off).take len++xs)=(aa.drop off).take len++xs:=by
    cases hq:Nat.beq (off+len) aa.length with
    |false=>rfl
    |true=>have bW:=e8j hq;rw[e6m,e5o (by simp;omega)]
   rw[hR];by_cases dX:len+xs.length≤c
   ·rcases bI with rfl|⟨m,hm,rfl,dV⟩
    · -- no capacity at all: nothing is appended to nothing
     have h0:len=0:=by omega
     have nj:xs=[]:=List.length_eq_zero_iff.1 (by omega);subst h0 nj;obtain⟨m,hm,cK,eh,hk,hk0,⟨bD,el,dz,aL,eA⟩,aw⟩:=r.live b _ hb;have hd:(aa.drop off).take 0=[]:=e71;have aC:=PMap.set_old (m:=⟨m.blk,m.off,m.k,m.room⟩) hρ;refine⟨.slice (some a) 0 0,w,ρ.set n ⟨m.blk,m.off,m.k,m.room⟩,?_,?_,?_,Moves.set _ _ _ rfl⟩
     ·have:=a2o ok hu bl dB bi (base:=some a) (aE:=0) (bn:=0) ty (w':=w) aj (by simp) dU (λa' h=>by
       have:new.toList=[]:=by have:=VRels.length im;simpa using this.symm
       rw[this];rfl) (λh=>by cases h)
      simpa using this
     ·refine a5r (mb:=m) r hn hρ hb hm rfl rfl (λ_ _=>rfl) rfl rfl rfl ?_;refine⟨hk,hk0,⟨bD,el,dz,aL,?_⟩,?_⟩
      ·simp[hd];omega
      ·simp[hd,VRows]
     ·simp only[VRel];exact⟨a,0,rfl,by simp,(λq hq=>by cases hq),.inl rfl⟩
    ·obtain⟨w',ae,fB,bv,ht,dL,aM,⟨bD,el,aR,bh⟩,eS,_⟩:=b4v (nn:=xs.length) ok r hu bl dB bi ty hb hm bB dV aj dX dU im dH rfl aI;obtain⟨m',a9,cK,eh,hk,hk0,_,_⟩:=r.live b _ hb;obtain rfl:m=m':=z9o (hm.symm.trans a9);have aC:=PMap.set_old (m:=⟨m.blk,m.off+off*m.k,m.k,m.room⟩) hρ;have bP:∀c,I c→w'.heap[c]?=w.heap[c]?:=λc hc=>bv c (λe=>cK (e▸hc));refine⟨_,w',ρ.set n ⟨m.blk,m.off+off*m.k,m.k,m.room⟩,ae,?_,?_,Moves.set _ _ _ rfl⟩
     ·refine a5r (mb:=m) r hn hρ hb hm rfl fB bv ht dL aM ?_;have fj:((aa.drop off).take len++xs).length=len+xs.length:=by rw[e6k,cU]
      refine⟨hk,hk0,⟨bD,el,aR,bh,?_⟩,?_⟩
      ·rw[fj,←hk,Nat.add_assoc,←e8q];have:(off+(len+xs.length))*m.k≤(off+c)*m.k:=e8g _ (by omega);exact Nat.le_trans (Nat.add_le_add_left this m.off) dV
      ·have h1:=VRows.drop (rs:=aa.take (off+len)++xs) off (by simp;omega) eS;rw[List.drop_append_of_le_length (by rw[e7u];omega),List.drop_take,e9b]at h1;rw[show off*E.sz ac=off*m.k by rw[hk]]at h1;exact VRows.mono (λ_ h=>h) (λ_ _=>rfl) _ aC rfl h1
     ·simp only[VRel];refine⟨_,c,rfl,dX,(λq hq=>by cases hq),.inr ⟨_,by simp[PMap.set];rfl,by simp,?_⟩⟩;show m.off+off*m.k+(0+c)*m.k≤m.room;rw[e7l,Nat.add_assoc,←e8q];exact dV
   ·have:=b17 (e:=.kill b (.row (E.sz ac) ((aa.drop off).take len++xs))) ok r hn hρ hu dB bi hz bu ty aj (by omega) aW aJ aO il im jw dH cU rfl (.inr ⟨b,rfl⟩);exact this
  · -- capacity known
   rename_i c';have ou:c=c':=aY c' rfl;subst ou;rw[cond_eq_ite]at ha;split at ha
   ·rename_i dX;simp only[e8m]at dX;rw[cond_eq_ite]at ha;split at ha
    case isFalse=>cases ha
    rename_i aT;cases ha;simp only[c11,e8m]at aT;obtain⟨bK,aI⟩:=aT;rcases bI with rfl|⟨m,hm,rfl,dV⟩
    ·have h0:len=0:=by omega
     have nj:xs=[]:=List.length_eq_zero_iff.1 (by omega);subst h0 nj;have aw:aa.take (off+0)++[]++aa.drop (off+0+([]:List (List AV)).length)=aa:=by simp
     rw[aw];refine⟨.slice (some a) 0 0,w,ρ,?_,?_,?_,Moves.same _ _ _⟩
     ·have:=a2o ok hu bl dB bi (base:=some a) (aE:=0) (bn:=0) ty (w':=w) aj (by simp) dU (λa' h=>by
       have:new.toList=[]:=by have:=VRels.length im;simpa using this.symm
       rw[this];rfl) (λh=>by cases h)
      simpa using this
     ·obtain⟨m,hm,_,_,ho⟩:=r.live b _ hb;exact a1n r hb hm rfl (λ_ _=>rfl) rfl rfl rfl ho
     ·simp only[VRel];exact⟨a,0,rfl,by simp,(λq hq=>by cases hq;rfl),.inl rfl⟩
    ·obtain⟨w',ae,fB,bv,ht,dL,aM,⟨bD,el,aR,bh⟩,eS,bO⟩:=b4v (nn:=xs.length) ok r hu bl dB bi ty hb hm bB dV aj dX dU im dH rfl aI;obtain⟨m',a9,cK,eh,hk,hk0,⟨_,_,_,_,eA⟩,jy⟩:=r.live b _ hb;obtain rfl:m=m':=z9o (hm.symm.trans a9);have bP:∀c,I c→w'.heap[c]?=w.heap[c]?:=λc hc=>bv c (λe=>cK (e▸hc));have fj:(aa.take (off+len)++xs).length=off+len+xs.length:=by simp;omega
     refine⟨_,w',ρ,ae,?_,?_,Moves.same _ _ _⟩
     ·refine a1n r hb hm fB bv ht dL aM ⟨hk,hk0,⟨bD,el,aR,bh,?_⟩,?_⟩
      ·have:(aa.take (off+len)++xs++aa.drop (off+len+xs.length)).length=aa.length:=by
        rw[e6k,fj];simp;omega
       rw[this];exact eA
      ·rw[VRows.append];refine⟨eS,?_⟩;rw[fj];refine VRows.mono_cells (λ_ h=>h) bP (λ_ _ h=>h) (λj hj=>bO _ (by omega)) (VRows.drop (off+len+xs.length) bK jy)
     ·simp only[VRel];exact⟨_,c,rfl,dX,(λq hq=>by cases hq;rfl),.inr ⟨m,hm,rfl,dV⟩⟩
   ·rename_i pu;rw[cond_eq_ite]at ha;split at ha
    case isFalse=>cases ha
    rename_i aW;cases ha;have pu:¬(len+xs.length≤c):=by simpa using pu
    exact b17 ok r hn hρ hu dB bi hz bu ty aj (by omega) aW aJ aO il im jw dH cU rfl (.inl rfl)
 ·cases ha
end
end Go.Ax
/- AxBlt: len, cap, min, max, copy. -/
namespace Go.Ax
section
variable {E:Env}{I K:Nat→Prop}{ρ:PMap}{h:FHeap}{n:Nat}{w:World}
def b3w(E:Env)(h:FHeap)(t:TypeId)(x:AV):Option AV:=
 match E.und t,x with
 |some .string,.str s=>some (.int .i64 s.length)
 |some (.array n _),x=>bif x.isJunk then none else some (.int .i64 n)
 |some (.slice _),.nilslice=>some (.int .i64 0)
 |some (.slice _),.slice _ _ len _=>some (.int .i64 len)
 |some (.slice _),.islice aa _=>some (.int .i64 aa.length)
 |some (.map _ _),.nilmap=>some (.int .i64 0)
 |some (.map _ _),.imap ks _ _ _=>some (.int .i64 ks.length)
 |some (.map _ _),.iset ks=>some (.int .i64 ks.length)
 |some (.map _ _),.map b=>match h b with
  |some (.map ks _ _ _)=>some (.int .i64 ks.length)
  |some (.uset ks)=>some (.int .i64 ks.length)
  |_=>none
 |_,_=>none
theorem d7m(ok:EnvOk E)(r:HRel E.G I K ρ h w){t:TypeId}{x v:AV}{c:Value}(ty:TypeId)(hv:b3w E h t x=some v)(hx:VRel I w ρ x c) :
 Val E I K ρ h n w (Builtin.len_ #[t] ty #[c]) v .none:=by
 unfold b3w at hv;split at hv
 ·rename_i hu;cases hv;simp only[VRel]at hx;obtain⟨tb,rfl,ht⟩:=hx;have:tb.size=tb.data.toList.length:=by rw[e6t];rfl
  exact Val.here (c:=goInt tb.size) r (by simp[Builtin.len_,a07 ok w hu]) (by rw[←ht,this];simp[goInt,VRel])
 ·rename_i y m e hu;rw[cond_eq_ite]at hv;split at hv
  ·cases hv
  ·cases hv;refine Val.here (c:=goInt m) r ?_ (by simp[goInt,VRel]);cases c<;>simp[Builtin.len_,a07 ok w hu]
 ·rename_i hu;cases hv;simp only[VRel]at hx;subst hx;exact Val.here (c:=goInt 0) r (by simp[Builtin.len_,a07 ok w hu]) (by simp[goInt,VRel])
 ·rename_i hu;cases hv;simp only[VRel]at hx;obtain⟨a,cc,rfl,_⟩:=hx;exact Val.here (c:=goInt _) r (by simp[Builtin.len_,a07 ok w hu];rfl) (by simp[goInt,VRel])
 ·rename_i hu;cases hv;simp only[VRel]at hx;obtain⟨a,cc,k,rfl,_⟩:=hx;exact Val.here (c:=goInt _) r (by simp[Builtin.len_,a07 ok w hu];rfl) (by simp[goInt,VRel])
 ·rename_i hu;cases hv;simp only[VRel]at hx;subst hx;exact Val.here (c:=goInt 0) r (by simp[Builtin.len_,a07 ok w hu]) (by simp[goInt,VRel])
 ·rename_i hu;cases hv;simp only[VRel]at hx;obtain⟨cc,es,rfl,_,he,cL,_,_⟩:=hx;have hl:=VRels.length cL;simp only[c10,e6t]at hl;refine Val.here (c:=goInt es.size) r ?_ (by rw[hl];simp[goInt,VRel]);simp[Builtin.len_,a07 ok w hu,getObj,Sem.run,he]
 ·rename_i hu;cases hv;simp only[VRel]at hx;obtain⟨cc,es,cl,rfl,_,he,hs⟩:=hx;have hl:=hs.1.length_eq;simp only[c10,e6t]at hl;refine Val.here (c:=goInt es.size) r ?_ (by rw[hl];simp[goInt,VRel]);simp[Builtin.len_,a07 ok w hu,getObj,Sem.run,he]
 ·rename_i b hu;split at hv
  case h_3=>cases hv
  case h_2=>rename_i ks hb;cases hv;simp only[VRel]at hx;obtain⟨m,hm,rfl⟩:=hx;obtain⟨m',a9,_,_,ho⟩:=r.live b _ hb;obtain rfl:m=m':=z9o (hm.symm.trans a9);obtain⟨es,cl,he,hs⟩:=ho;have hl:=hs.1.length_eq;simp only[c10,e6t]at hl;refine Val.here (c:=goInt es.size) r ?_ (by rw[hl];simp[goInt,VRel]);simp[Builtin.len_,a07 ok w hu,getObj,Sem.run,he]
  rename_i ks vs bs cl hb;cases hv;simp only[VRel]at hx;obtain⟨m,hm,rfl⟩:=hx;obtain⟨m',a9,_,_,ho⟩:=r.live b _ hb;obtain rfl:m=m':=z9o (hm.symm.trans a9);obtain⟨es,he,cL,_,_⟩:=ho;have hl:=VRels.length cL;simp only[c10,e6t]at hl;refine Val.here (c:=goInt es.size) r ?_ (by rw[hl];simp[goInt,VRel]);simp[Builtin.len_,a07 ok w hu,getObj,Sem.run,he]
 ·cases hv
def d7t(E:Env)(t:TypeId)(x:AV):Option AV:=
 match E.und t,x with
 |some (.slice _),.nilslice=>some (.int .i64 0)
 |some (.slice _),.slice _ _ _ (some c)=>some (.int .i64 c)
 |some (.slice _),.islice _ (some c)=>some (.int .i64 c)
 |_,_=>none
theorem d7s(ok:EnvOk E)(r:HRel E.G I K ρ h w){t:TypeId}{x v:AV}{c:Value}(ty:TypeId)(hv:d7t E t x=some v)(hx:VRel I w ρ x c) :
 Val E I K ρ h n w (Builtin.cap_ #[t] ty #[c]) v .none:=by
 unfold d7t at hv;split at hv
 ·rename_i hu;cases hv;simp only[VRel]at hx;subst hx;exact Val.here (c:=goInt 0) r (by simp[Builtin.cap_,a07 ok w hu]) (by simp[goInt,VRel])
 ·rename_i hu;cases hv;simp only[VRel]at hx;obtain⟨a,cc,rfl,_,hc,_⟩:=hx;have:=hc _ rfl;exact Val.here (c:=goInt cc) r (by simp[Builtin.cap_,a07 ok w hu]) (by rw[this];simp[goInt,VRel])
 ·rename_i hu;cases hv;simp only[VRel]at hx;obtain⟨a,cc,k,rfl,_,hc,_⟩:=hx;have:=hc _ rfl;exact Val.here (c:=goInt cc) r (by simp[Builtin.cap_,a07 ok w hu]) (by rw[this];simp[goInt,VRel])
 ·cases hv
def d4l:AV→List AV→Option AV
 |x,[]=>match x with|.int k a=>some (.int k a)|_=>none
 |.int k a,.int _ b::r=>d4l (.int k (if b<a then b else a)) r
 |_,_::_=>none
def d38:AV→List AV→Option AV
 |x,[]=>match x with|.int k a=>some (.int k a)|_=>none
 |.int k a,.int _ b::r=>d38 (.int k (if b>a then b else a)) r
 |_,_::_=>none
theorem c96:∀{xs:List AV} {x v:AV} {c:Value} {cs:List Value},d4l x xs=some v→VRel I w ρ x c→VRels I w ρ xs cs→
 ∃d,(cs.foldlM Builtin.min2 c).run E.P w = .ok d w∧VRel I w ρ v d
 | [],x,v,c,cs,hv,hx,br=>by
  simp only[VRels]at br;subst br;simp only[d4l]at hv;split at hv
  ·cases hv;exact⟨c,by simp,hx⟩
  ·cases hv
 |y::ys,x,v,c,cs,hv,hx,br=>by
  simp only[VRels]at br;obtain⟨cy,aF,rfl,hy,jo⟩:=br;unfold d4l at hv;split at hv
  ·rename_i h;cases h
  ·rename_i k a k' b r he;cases he;simp only[VRel]at hx hy;subst hx hy;obtain⟨d,h1,h2⟩:=c96 (c:=.int k (if b<a then b else a)) hv (by simp[VRel]) jo;exact⟨d,by simp only[List.foldlM_cons,Builtin.min2,Sem.run_bind,Sem.run_pure,Result.andThen_ok,h1],h2⟩
  ·cases hv
theorem c97:∀{xs:List AV} {x v:AV} {c:Value} {cs:List Value},d38 x xs=some v→VRel I w ρ x c→VRels I w ρ xs cs→
 ∃d,(cs.foldlM Builtin.max2 c).run E.P w = .ok d w∧VRel I w ρ v d
 | [],x,v,c,cs,hv,hx,br=>by
  simp only[VRels]at br;subst br;simp only[d38]at hv;split at hv
  ·cases hv;exact⟨c,by simp,hx⟩
  ·cases hv
 |y::ys,x,v,c,cs,hv,hx,br=>by
  simp only[VRels]at br;obtain⟨cy,aF,rfl,hy,jo⟩:=br;unfold d38 at hv;split at hv
  ·rename_i h;cases h
  ·rename_i k a k' b r he;cases he;simp only[VRel]at hx hy;subst hx hy;obtain⟨d,h1,h2⟩:=c97 (c:=.int k (if b>a then b else a)) hv (by simp[VRel]) jo;exact⟨d,by simp only[List.foldlM_cons,Builtin.max2,Sem.run_bind,Sem.run_pure,Result.andThen_ok,h1],h2⟩
  ·cases hv
theorem a8n(r:HRel E.G I K ρ h w){k:Nat}{x:AV}{xs:List (List AV)}{c:Value}(ha:a1o h k x=some xs)(hx:VRel I w ρ x c)(j:Nat)(hj:j≤xs.length) :
 ∃cv:Array Value,(Builtin.firstCells k j c).run E.P w = .ok cv w∧VRels I w ρ (xs.take j).flatten cv.toList:=by
 have bg:(xs.take j).length=j:=by simp;omega
 have key:∀(a:Addr) (n cap:Nat),a.spot=none→VAt I w ρ (xs.take j).flatten a.block a.off→(∀r∈xs.take j,r.length=k)→∃cv:Array Value,(Builtin.firstCells k j (.slice (some a) n cap)).run E.P w = .ok cv w∧VRels I w ρ (xs.take j).flatten cv.toList:=by
  intro a n cap hs cA hk;obtain⟨cv,h1,h2⟩:=VAt.cells cA;have hl:cv.length=j*k:=by rw[←VRels.length h2,a0o hk,bg]
  have ha:a=⟨a.block,a.off,none⟩:=by cases a;simp_all
  refine⟨cv.toArray,?_,by simpa using h2⟩;have:=run_loadCells_list (P:=E.P) w a cv (λi v hi=>by rw[ha,a3u];exact h1 i v hi);rw[hl]at this;simpa[Builtin.firstCells]using this
 obtain⟨_,_,aT⟩:=a44 r ha hx;have jj:∀r∈xs.take j,r.length=k:=λr hr=>aT r (List.mem_of_mem_take hr);unfold a1o at ha;split at ha
 ·cases ha;simp only[VRel]at hx;subst hx;exact⟨#[],rfl,by simp[VRels]⟩
 ·rename_i aa cap;rw[cond_eq_ite]at ha;split at ha
  case isFalse=>cases ha
  cases ha;simp only[VRel]at hx;obtain⟨a,cc,kk,rfl,bf,_,bI⟩:=hx;rcases bI with rfl|⟨hs,hI,aw⟩
  ·have:j=0:=by simpa using hj
   subst this;exact⟨#[],by simp[Builtin.firstCells,loadCells,loadCellsFrom],by simp[VRels]⟩
  ·exact key a _ _ hs (VAt.noRef_any (VRows.iff.1 (VRows.take j aw)).2) jj
 ·rename_i b off len cap;split at ha
  case h_2=>cases ha
  rename_i k' aa hb;rw[cond_eq_ite]at ha;split at ha
  case isFalse=>cases ha
  rename_i hc;cases ha;simp only[c11,e9d,e8m]at hc;obtain⟨rfl,bB⟩:=hc;obtain⟨m,hm,_,_,ho⟩:=r.live b _ hb;obtain⟨hk,hk0,_,aw⟩:=ho;simp only[VRel]at hx;obtain⟨a,cc,rfl,bf,_,bI⟩:=hx;rcases bI with rfl|⟨m',a9,rfl,aW⟩
  ·have:j=0:=by simp at hj;omega
   subst this;exact⟨#[],by simp[Builtin.firstCells,loadCells,loadCellsFrom],by simp[VRels]⟩
  ·obtain rfl:m=m':=z9o (hm.symm.trans a9);refine key _ _ _ rfl ?_ jj;rw[hk];exact(VRows.iff.1 (VRows.take j (VRows.take len (VRows.drop off (by omega) aw)))).2
 ·rename_i s;rw[cond_eq_ite]at ha;split at ha
  case isFalse=>cases ha
  cases ha;simp only[VRel]at hx;obtain⟨t,rfl,ht⟩:=hx;refine⟨_,by simp only[Builtin.firstCells,Sem.run_pure];rfl,?_⟩;rw[e8w,a5o,←List.map_take];simp only[e86,ht,Nat.sub_zero];exact a88 _
 ·cases ha
theorem b4e(r:HRel E.G I K ρ h w){m:Pl}{b off k:Nat}{aa xs:List (List AV)}{new:List Value}(hb:h b=some (.row k aa))(hm:ρ b=some m)(bB:off+xs.length≤aa.length)
 (br:VRels I w ρ xs.flatten new)(dH:∀r∈xs,r.length=k)(aI:xs.all (λr=>r.all AV.storable)=true) :
 ∃w',(storeCells ⟨m.blk,m.off+off*m.k,none⟩ new).run E.P w = .ok () w'∧Stepped E.G I K ρ w I ρ (h.eff n (.set b (.row k (aa.take off++xs++aa.drop (off+xs.length))))) w':=by
 obtain⟨m',a9,cK,_,ho⟩:=r.live b _ hb;obtain rfl:m=m':=z9o (hm.symm.trans a9);obtain⟨hk,hk0,⟨bD,el,dz,aL,eA⟩,aw⟩:=ho;have cY:new.length=xs.length*k:=by have:=VRels.length br;rw[a0o dH]at this;exact this.symm
 have ez:xs.flatten.all AV.storable=true:=by rw[e6x]at aI⊢;intro v hv;obtain⟨l,hl,dC⟩:=List.mem_flatten.1 hv;exact e6x.1 (aI l hl) v dC
 have bS:m.off+off*m.k+new.length≤bD.size:=by rw[aL,cY,hk,Nat.add_assoc,←e8q];exact Nat.le_trans (Nat.add_le_add_left (e8g k bB) _) eA
 obtain⟨w',ae,⟨cJ,aR,fB⟩,bv,bu,ht,dL,aM,bp,bO⟩:=b5n (w:=w) (blk:=m.blk) (o:=m.off+off*m.k) new dz bS (VRels.storable br ez) E.P;have bP:∀c,I c→w'.heap[c]?=w.heap[c]?:=λc hc=>bv c (λe=>cK (e▸hc));have dD:(aa.take off).length=off:=by simp;omega
 refine⟨w',ae,a1n r hb hm bu bv ht dL aM ⟨hk,hk0,⟨cJ,el,aR,by omega,?_⟩,?_⟩⟩
 ·have:(aa.take off++xs++aa.drop (off+xs.length)).length=aa.length:=by simp;omega
  rw[this];exact eA
 ·rw[VRows.append,VRows.append];refine⟨⟨?_,?_⟩,?_⟩
  ·refine VRows.mono_cells (λ_ h=>h) bP (λ_ _ h=>h) (λj hj=>bO _ (.inl ?_)) (VRows.take off aw);rw[dD]at hj;rw[hk];omega
  ·rw[VRows.iff,dD,←hk];exact⟨by rw[hk];exact dH,VAt.of_cells bp (VRels.mono (λ_ h=>h) bP _ (λ_ _ h=>h) br)⟩
  ·rw[e6k,dD];refine VRows.mono_cells (λ_ h=>h) bP (λ_ _ h=>h) (λj hj=>bO _ (.inr ?_)) (VRows.drop (off+xs.length) bB aw);rw[cY,hk,e8q];omega
def c4t(E:Env)(h:FHeap)(dt:TypeId)(d x:AV):Option (AV×Eff):=
 match E.und dt with
 |some (.slice ac)=>bif (E.und ac).isSome then
  match a1o h (E.sz ac) x with
  |none=>none
  |some xs=>match d with
   |.nilslice=>some (.int .i64 0,.none)
   |.slice b off len _=>bif Nat.beq len 0 then some (.int .i64 0,.none)else match h b with
    |some (.row kk aa)=>bif kk==E.sz ac&&Nat.ble (off+len) aa.length&&Nat.blt 0 len&&(xs.take len).all (λr=>r.all AV.storable)then
     some (.int .i64 ((xs.take len).length:Nat),.set b (.row kk (aa.take off++xs.take len++aa.drop (off+(xs.take len).length))))else none
    |_=>none
   |_=>none else none
 |_=>none
theorem d3c(ok:EnvOk E)(r:HRel E.G I K ρ h w){dt xt:TypeId}{d x v:AV}{e:Eff}{cd cx:Value}(ty:TypeId)
 (ha:c4t E h dt d x=some (v,e))(hd:VRel I w ρ d cd)(hx:VRel I w ρ x cx):Val E I K ρ h n w (Builtin.copy_ #[dt,xt] ty #[cd,cx]) v e:=by
 unfold c4t at ha;split at ha
 case h_2=>cases ha
 rename_i ac hu;rw[cond_eq_ite]at ha;split at ha
 case isFalse=>cases ha
 rename_i rk;obtain⟨de,bl⟩:=e4v.1 rk;split at ha
 case h_1=>cases ha
 rename_i xs br;obtain⟨aj,_,dH⟩:=a44 r br hx;split at ha
 ·cases ha;simp only[VRel]at hd;subst hd;obtain⟨cv,h1,h2⟩:=a8n r br hx 0 (by omega);refine Val.here (c:=goInt 0) r ?_ (by simp[goInt,VRel]);have jG:Nat.min xs.length 0=0:=Nat.min_zero _;simp only[Builtin.copy_,e83,e7m,e7g,Sem.run_bind,a07 ok w hu,Result.andThen_ok,aj,a2m ok w bl,jG,h1,Sem.run_pure];rfl
 ·rename_i b off len cap;rw[cond_eq_ite]at ha;split at ha
  ·rename_i h0;have h0:=e8j h0;subst h0;cases ha;simp only[VRel]at hd;obtain⟨a,c,rfl,bf,_,_⟩:=hd;obtain⟨cv,h1,h2⟩:=a8n r br hx 0 (by omega);have aQ:cv.toList=[]:=by have:=VRels.length h2;simpa using this.symm
   refine Val.here (c:=goInt 0) r ?_ (by simp[goInt,VRel]);have jG:Nat.min xs.length 0=0:=Nat.min_zero _;simp only[Builtin.copy_,e83,e7m,e7g,Sem.run_bind,a07 ok w hu,Result.andThen_ok,aj,a2m ok w bl,jG,h1,aQ];cases a<;>rfl
  split at ha
  case h_2=>cases ha
  rename_i kk aa hb;rw[cond_eq_ite]at ha;split at ha
  case isFalse=>cases ha
  rename_i cw;cases ha;simp only[c11,e9d,e8m,e6u]at cw;obtain⟨⟨⟨rfl,bB⟩,ed⟩,aI⟩:=cw;simp only[VRel]at hd;obtain⟨a,c,rfl,bf,_,bI⟩:=hd;rcases bI with rfl|⟨m,hm,rfl,aW⟩
  ·omega
  have da:(xs.take len).length=Nat.min xs.length len:=by rw[e7u,Nat.min_comm]
  have nM:Nat.min xs.length len≤xs.length:=Nat.min_le_left _ _;have pw:Nat.min xs.length len≤len:=Nat.min_le_right _ _;obtain⟨cv,h1,h2⟩:=a8n r br hx _ nM;have du:xs.take (Nat.min xs.length len)=xs.take len:=by
   rcases Nat.le_total xs.length len with h|h
   ·rw[show Nat.min xs.length len=xs.length from Nat.min_eq_left h,e82,e5o h]
   ·rw[show Nat.min xs.length len=len from Nat.min_eq_right h]
  rw[du]at h2;obtain⟨w',ae,cj⟩:=b4e (n:=n) r hb hm (off:=off) (xs:=xs.take len) (by omega) h2 (λr hr=>dH r (List.mem_of_mem_take hr)) aI;refine⟨goInt (xs.take len).length,w',ρ,?_,cj,by simp[goInt,VRel],Moves.same _ _ _⟩;simp only[Builtin.copy_,e83,e7m,e7g,Sem.run_bind,a07 ok w hu,Result.andThen_ok,aj,a2m ok w bl,h1,ae,Sem.run_pure,da]
 ·cases ha
def b5g(E:Env)(h:FHeap)(t:TypeId)(x:AV):Option (AV×Eff):=
 match E.und t,x with
 |some (.slice _),.nilslice=>some (.tuple [],.none)
 |some (.slice ac),.slice b off len _=>bif Nat.beq len 0 then some (.tuple [],.none)else match E.zero ac with
  |some z=>match h b with
   |some (.row kk aa)=>bif kk==E.sz ac&&Nat.ble (off+len) aa.length&&z.all AV.storable then
    some (.tuple [],.set b (.row kk (aa.take off++List.replicate len z++aa.drop (off+(List.replicate len z).length))))else none
   |_=>none
  |none=>none
 |_,_=>none
theorem a6w{z:List AV}{zs:List Value}(hz:VRels I w ρ z zs):∀n:Nat,VRels I w ρ (List.replicate n z).flatten (List.replicate n zs).flatten
 |0=>by simp[VRels]
 |n+1=>by rw[e8s,e8s,e80,e80];exact VRels.append hz (a6w hz n)
theorem c9g(ok:EnvOk E)(r:HRel E.G I K ρ h w){t:TypeId}{x v:AV}{e:Eff}{cx:Value}(ty:TypeId)
 (ha:b5g E h t x=some (v,e))(hx:VRel I w ρ x cx):Val E I K ρ h n w (Builtin.clear_ #[t] ty #[cx]) v e:=by
 unfold b5g at ha;split at ha
 ·rename_i ac hu;cases ha;simp only[VRel]at hx;subst hx;refine Val.here (c:=.tuple #[]) r ?_ (by simp only[VRel];exact⟨#[],rfl,by simp[VRels]⟩);simp[Builtin.clear_,a07 ok w hu]
 ·rename_i ac b off len cap hu;simp only[VRel]at hx;obtain⟨a,c,rfl,bf,_,bI⟩:=hx;rw[cond_eq_ite]at ha;split at ha
  ·rename_i h0;have h0:=e8j h0;subst h0;cases ha;refine Val.here (c:=.tuple #[]) r ?_ (by simp only[VRel];exact⟨#[],rfl,by simp[VRels]⟩);simp[Builtin.clear_,a07 ok w hu]
  rename_i h0;have ed:len≠0:=λe=>h0 (by subst e;rfl);split at ha
  case h_2=>cases ha
  rename_i z hz;split at ha
  case h_2=>cases ha
  rename_i kk aa hb;rw[cond_eq_ite]at ha;split at ha
  case isFalse=>cases ha
  rename_i cw;cases ha;simp only[c11,e9d,e8m]at cw;obtain⟨⟨rfl,bB⟩,aI⟩:=cw;rcases bI with rfl|⟨m,hm,rfl,aW⟩
  ·omega
  obtain⟨z',dG,ff,bH⟩:=a68 ok w hz;have eU:=List.length_replicate (n:=len) (a:=z);obtain⟨w',ae,cj⟩:=b4e (n:=n) r hb hm (off:=off) (xs:=List.replicate len z) (new:=(List.replicate len z'.cells.toList).flatten) (by omega) (a6w (VRels.noRef_any (bH I w)) len)
   (λr hr=>by rw[e7q hr];exact ff) (by rw[e6x];intro r hr;rw[e7q hr];exact aI)
  refine⟨.tuple #[],w',ρ,?_,cj,by simp only[VRel];exact⟨#[],rfl,by simp[VRels]⟩,Moves.same _ _ _⟩;obtain⟨qo,rfl⟩:∃l,len=l+1:=⟨len-1,by omega⟩
  simp only[Builtin.clear_,e83,e7m,Sem.run_bind,a07 ok w hu,Result.andThen_ok,dG,a47,ae,Sem.run_pure]
 ·cases ha
end
end Go.Ax
/- AxMap: maps with d0s keys: lookup, update, delete. -/
namespace Go.Ax
section
variable {E:Env}{I K:Nat→Prop}{ρ:PMap}{h:FHeap}{n:Nat}{w:World}
def a57:TypeDesc→Bool
 |.int _|.string|.bool=>true
 |_=>false
def b87(E:Env)(t:TypeId):Bool:=
 match E.und t with
 |some (.struct fs)=>E.eqok t&&fs.toList.all λf=>match E.und f.type with|some d=>a57 d|none=>false
 |some d=>a57 d
 |none=>false
def c2i:AV→AV→Bool
 |.int k a,.int k' b=>k==k'&&a==b
 |.str a,.str b=>a==b
 |.bool a,.bool b=>a==b
 |_,_=>false
def b5c:List AV→List AV→Bool
 | [],[]=>true
 |a::as,b::bs=>c2i a b&&b5c as bs
 |_,_=>false
def d32:AV→AV→Bool
 |.agg a,.agg b=>b5c a b
 |a,b=>c2i a b
theorem b8t{a b:AV}(hs:c2i a b=true){ca cb:Value}(ha:VRel I w ρ a ca)(hb:VRel I w ρ b cb):ca=cb∧∀m,Instr.sameBits m ca cb=true:=by
 unfold c2i at hs;split at hs
 ·simp only[c11,e9d]at hs;obtain⟨rfl,rfl⟩:=hs;simp only[VRel]at ha hb;subst ha hb;exact⟨rfl,λm=>by cases m<;>simp[Instr.sameBits]⟩
 ·simp only[e9d]at hs;subst hs;simp only[VRel]at ha hb;obtain⟨t,rfl,ht⟩:=ha;obtain⟨t',rfl,qF⟩:=hb;have:t=t':=by
   cases t;cases t';simp only[ByteArray.mk.injEq];exact Array.toList_inj.1 (ht.trans qF.symm)
  subst this;exact⟨rfl,λm=>by cases m<;>simp[Instr.sameBits,b39]⟩
 ·simp only[e9d]at hs;subst hs;simp only[VRel]at ha hb;subst ha hb;exact⟨rfl,λm=>by cases m<;>simp[Instr.sameBits]⟩
 ·cases hs
theorem b8s:∀{as bs:List AV} {cs ds:List Value},b5c as bs=true→VRels I w ρ as cs→VRels I w ρ bs ds→
 cs=ds∧∀m,(cs.zip ds).all (λ(x,y)=>Instr.sameBits m x y)=true
 | [],[],cs,ds,_,ha,hb=>by simp only[VRels]at ha hb;subst ha hb;exact⟨rfl,by simp⟩
 |a::as,b::bs,cs,ds,hs,ha,hb=>by simp only[VRels]at ha hb;obtain⟨c,aF,rfl,h1,h2⟩:=ha;obtain⟨d,sJ,rfl,h3,h4⟩:=hb;simp only[b5c,c11]at hs;obtain⟨rfl,h5⟩:=b8t hs.1 h1 h3;obtain⟨rfl,h6⟩:=b8s hs.2 h2 h4;exact⟨rfl,λm=>by simp only[List.zip_cons_cons,List.all_cons,h5 m,e8p];exact h6 m⟩
 | [],_::_,cs,ds,hs,_,_=>by simp[b5c]at hs
 |_::_,[],cs,ds,hs,_,_=>by simp[b5c]at hs
theorem d31{a b:AV}(hs:d32 a b=true){ca cb:Value}(ha:VRel I w ρ a ca)(hb:VRel I w ρ b cb):ca=cb∧Instr.sameBits 10000 ca cb=true:=by
 unfold d32 at hs;split at hs
 ·simp only[VRel]at ha hb;obtain⟨ca,rfl,ha⟩:=ha;obtain⟨cb,rfl,hb⟩:=hb;obtain⟨he,h1⟩:=b8s hs ha hb;have he:ca=cb:=Array.toList_inj.1 he;subst he;refine⟨rfl,?_⟩;show(ca.size==ca.size&&(ca.toList.zip ca.toList).all λ(x,y)=>Instr.sameBits 9999 x y)=true;rw[h1 9999];simp
 ·obtain⟨h1,h2⟩:=b8t hs ha hb;exact⟨h1,h2 10000⟩
def a1j(eq:AV→AV→Option Bool)(k:AV):List AV→Nat→Option (Option Nat)
 | [],_=>some none
 |x::xs,i=>match eq k x with
  |some q=>bif q then some (some i)else a1j eq k xs (i+1)
  |none=>none
theorem a95(ok:EnvOk E){kt:TypeId}{k:AV}{ck:Value}(hk:VRel I w ρ k ck):∀{ks:List AV} {es:List MapEntry} {i:Nat} {r:Option Nat},
 a1j (aeq E 6 kt) k ks i=some r→VRels I w ρ ks (es.map (·.key))→
 (Instr.findAsking kt ck es i).run E.P w = .ok (r.map λj=>(j,((es[j-i]?).map (·.val)).getD undef)) w∧∀j,r=some j→i≤j∧j-i<es.length
 | [],es,i,r,hf,cL=>by simp only[VRels,List.map_eq_nil_iff]at cL;subst cL;simp only[a1j,Option.some.injEq]at hf;subst hf;exact⟨rfl,by simp⟩
 |x::ks,es,i,r,hf,cL=>by
  cases es with
  |nil=>simp[VRels]at cL
  |cons e es=>
   simp only[e4r,VRels,List.cons.injEq]at cL;obtain⟨c,cs,⟨rfl,rfl⟩,hx,cL⟩:=cL;simp only[a1j]at hf;split at hf
   case h_2=>cases hf
   rename_i q hq;have bW:=a4i ok hq hk hx;unfold Instr.findAsking;simp only[Sem.run_bind,bW,Result.andThen_ok];cases q with
   |true=>simp only[e6m,Option.some.injEq]at hf;subst hf;exact⟨by simp,by simp⟩
   |false=>
    simp only[e6w]at hf;obtain⟨h1,h2⟩:=a95 ok hk (es:=es) hf cL;simp only[e7w,e9z];rw[h1];refine⟨?_,λj hj=>?_⟩
    ·cases r with
     |none=>rfl
     |some j=>obtain⟨h3,h4⟩:=h2 j rfl;simp only[e5p];rw[show j-i=(j-(i+1))+1 by omega];simp
    ·obtain⟨h3,h4⟩:=h2 j hj;simp;omega
theorem d7r{t:TypeId}{k0:IntKind}(hu:E.und t=some (.int k0)){d:Nat}{x y:AV}{q:Bool}(hq:aeq E (d+1) t x y=some q):∃k a b,x = .int k a∧y = .int k b∧q=(a==b):=by
 unfold aeq at hq;rw[hu]at hq;split at hq
 case h_2=>
  rw[cond_eq_ite]at hq;split at hq
  ·rename_i hk;cases hq;have hk:=eq_of_beq hk;subst hk;exact⟨_,_,_,rfl,rfl,rfl⟩
  ·cases hq
 all_goals (try simp only[Option.some.injEq]at *);subst_vars;simp_all[a25]
theorem d7q{t:TypeId}(hu:E.und t=some .string){d:Nat}{x y:AV}{q:Bool}(hq:aeq E (d+1) t x y=some q):∃a b,x = .str a∧y = .str b∧q=(a==b):=by
 unfold aeq at hq;rw[hu]at hq;split at hq
 case h_3=>cases hq;exact⟨_,_,rfl,rfl,rfl⟩
 all_goals (try simp only[Option.some.injEq]at *);subst_vars;simp_all[a25]
theorem d3a{t:TypeId}(hu:E.und t=some .bool){d:Nat}{x y:AV}{q:Bool}(hq:aeq E (d+1) t x y=some q):∃a b,x = .bool a∧y = .bool b∧q=(a==b):=by
 unfold aeq at hq;rw[hu]at hq;split at hq
 case h_1=>cases hq;exact⟨_,_,rfl,rfl,rfl⟩
 all_goals (try simp only[Option.some.injEq]at *);subst_vars;simp_all[a25]
theorem c36{d:TypeDesc}(hd:a57 d=true){kt:TypeId}(hu:E.und kt=some d){k x:AV}{ck cx:Value}{q:Bool}(hk:VRel I w ρ k ck)(hx:VRel I w ρ x cx)
 (hq:aeq E 6 kt k x=some q):Instr.sameNow d ck cx=some q:=by
 cases d<;>simp[a57]at hd
 ·obtain⟨a,b,rfl,rfl,rfl⟩:=d3a hu hq;simp only[VRel]at hk hx;subst hk hx;rfl
 ·obtain⟨kk,a,b,rfl,rfl,rfl⟩:=d7r hu hq;simp only[VRel]at hk hx;subst hk hx;simp[Instr.sameNow]
 ·obtain⟨a,b,rfl,rfl,rfl⟩:=d7q hu hq;simp only[VRel]at hk hx;obtain⟨t,rfl,rfl⟩:=hk;obtain⟨t',rfl,rfl⟩:=hx;simp only[Instr.sameNow,b39]
theorem b52{k:AV}{ck:Value}{d:TypeDesc}(hd:a57 d=true){kt:TypeId}(hu:E.und kt=some d)(hk:VRel I w ρ k ck):∀{ks:List AV} {es:List MapEntry} {i:Nat} {r:Option Nat},
 a1j (aeq E 6 kt) k ks i=some r→VRels I w ρ ks (es.map (·.key))→
 Instr.findNow d ck es i=some (r.map λj=>(j,((es[j-i]?).map (·.val)).getD undef))∧∀j,r=some j→i≤j∧j-i<es.length
 | [],es,i,r,hf,cL=>by simp only[VRels,List.map_eq_nil_iff]at cL;subst cL;simp only[a1j,Option.some.injEq]at hf;subst hf;exact⟨rfl,by simp⟩
 |x::ks,es,i,r,hf,cL=>by
  cases es with
  |nil=>simp[VRels]at cL
  |cons e es=>
   simp only[e4r,VRels,List.cons.injEq]at cL;obtain⟨c,cs,⟨rfl,rfl⟩,hx,cL⟩:=cL;simp only[a1j]at hf;split at hf
   case h_2=>cases hf
   rename_i q hq;have af:=c36 hd hu hk hx hq;unfold Instr.findNow;rw[af];cases q with
   |true=>simp only[e6m,Option.some.injEq]at hf;subst hf;exact⟨by simp,by simp⟩
   |false=>
    simp only[e6w]at hf;obtain⟨h1,h2⟩:=b52 hd hu hk (es:=es) hf cL;dsimp only;rw[h1];refine⟨?_,λj hj=>?_⟩
    ·cases r with
     |none=>rfl
     |some j=>obtain⟨h3,h4⟩:=h2 j rfl;simp only[e5p];rw[show j-i=(j-(i+1))+1 by omega];simp
    ·obtain⟨h3,h4⟩:=h2 j hj;simp;omega
theorem b3t{ck:Value}{fs:Array Field}:∀(es:List MapEntry) (i:Nat),Instr.findNow (.struct fs) ck es i=if es=[]then some none else none
 | [],i=>by simp[Instr.findNow]
 |e::es,i=>by simp[Instr.findNow,Instr.sameNow]
theorem b03(ok:EnvOk E){kt:TypeId}(mG:b87 E kt=true){k:AV}{ck:Value}(hk:VRel I w ρ k ck){ks:List AV}{es:List MapEntry}{r:Option Nat}
 (hf:a1j (aeq E 6 kt) k ks 0=some r)(cL:VRels I w ρ ks (es.map (·.key))) :
 (Instr.findKey kt ck es).run E.P w = .ok (r.map λj=>(j,((es[j]?).map (·.val)).getD undef)) w∧∀j,r=some j→j<es.length:=by
 unfold b87 at mG;split at mG
 ·rename_i fs hu;obtain⟨h1,h2⟩:=a95 ok hk hf cL;refine⟨?_,λj hj=>(h2 j hj).2⟩;unfold Instr.findKey;simp only[Sem.run_bind,a07 ok w hu,Result.andThen_ok,b3t];by_cases he:es=[]
  ·subst he;simp at cL;have:ks=[]:=by cases ks with|nil=>rfl|cons a b=>simp[VRels]at cL
   subst this;simp only[a1j,Option.some.injEq]at hf;subst hf;simp
  ·simp only[he,e9z];simpa using h1
 ·rename_i d _ hu;obtain⟨h1,h2⟩:=b52 mG hu hk hf cL;refine⟨?_,λj hj=>(h2 j hj).2⟩;unfold Instr.findKey;simp only[Sem.run_bind,a07 ok w hu,Result.andThen_ok,h1];simp
 ·cases mG
theorem a38(ok:EnvOk E){t:TypeId}{d:TypeDesc}(hd:a57 d=true)(hu:E.und t=some d)(b:Bool)(m:Nat)(c:Value):(Instr.checkKey b (m+1) t c).run E.P w = .ok () w:=by unfold Instr.checkKey;simp only[Sem.run_bind,a07 ok w hu,Result.andThen_ok];cases d<;>simp[a57]at hd<;>rfl
def b16(E:Env):List Field→List AV→Bool
 | [],_=>true
 |f::fs,cs=>(a1z E f.type ((cs.drop f.offset).take (E.sz f.type))).isSome&&b16 E fs cs
def b4t(E:Env)(t:TypeId)(x:AV):Bool:=
 match E.und t,x with
 |some (.struct fs),.agg cs=>b16 E fs.toList cs
 |some (.struct _),_=>false
 |_,_=>true
theorem b35(ok:EnvOk E){t:TypeId}(ht:b87 E t=true){x:AV}{c:Value}(hx:VRel I w ρ x c)(hv:b4t E t x=true)(b:Bool):(Instr.checkKey b 10000 t c).run E.P w = .ok () w:=by
 unfold b87 at ht;split at ht
 ·rename_i fs hu;simp only[c11]at ht;unfold b4t at hv;rw[hu]at hv;cases x<;>simp at hv;rename_i cs;simp only[VRel]at hx;obtain⟨cv,rfl,hc⟩:=hx;obtain⟨_,_,_,eY⟩:=ok.eqok t ht.1;unfold Instr.checkKey;simp only[Sem.run_bind,a07 ok w hu,Result.andThen_ok];have key:∀(l:List Field),(∀f∈l,f∈fs.toList)→b16 E l cs=true→
   (forIn l () (λf _=>if f.name≠ "_" then do
    Instr.checkKey b 9999 f.type (←part f.type cv f.offset)
    pure (ForInStep.yield ())
    else pure (ForInStep.yield ()):Field→Unit→Sem (ForInStep Unit))).run E.P w = .ok () w:=by
   intro l
   induction l with
   |nil=>intro _ _;simp
   |cons f l ih=>
    intro hm hp;simp only[b16,c11]at hp;obtain⟨v,hv⟩:=e4v.1 hp.1;obtain⟨cc,h1,_⟩:=a7t ok hv hc;have hf:=hm f (by simp);have lh:=e6x.1 ht.2 f hf;split at lh
    case h_2=>cases lh
    rename_i d hd;have gr:=eY fs hu f hf;rw[List.forIn_cons];simp only[ne_eq,gr,not_false_eq_true,e8f,Sem.run_bind,h1,Result.andThen_ok,a38 ok lh hd,Sem.run_pure];exact ih (λg hg=>hm g (by simp[hg])) hp.2
  rw[←Array.forIn_toList];exact(congrArg (λr=>Result.andThen r (λ_ w'=>(pure ():Sem Unit).run E.P w')) (key fs.toList (λ_ h=>h) hv)).trans rfl
 ·rename_i d _ hu;exact a38 ok ht hu b 9999 c
 ·cases ht
def b0t(h:FHeap):AV→Option (List AV×List AV)
 |.nilmap=>some ([],[])
 |.imap ks vs _ _=>some (ks,vs)
 |.map b=>match h b with
  |some (.map ks vs _ _)=>some (ks,vs)
  |_=>none
 |_=>none
def a5f(E:Env)(h:FHeap)(t:TypeId)(x k:AV)(ok:Bool):Option AV:=
 match E.und t with
 |some (.map kt et)=>bif b87 E kt&&b4t E kt k then
  match b0t h x,E.zero et,E.und et with
  |some (ks,vs),some z,some d=>match a1j (aeq E 6 kt) k ks 0 with
   |some (some i)=>match vs[i]? with
    |some v=>some (bif ok then .tuple [v,.bool true]else v)
    |none=>none
   |some none=>bif a1t d then some (bif ok then .tuple [.agg z,.bool false]else .agg z)else
    match z with
    | [v]=>some (bif ok then .tuple [v,.bool false]else v)
    |_=>none
   |none=>none
  |_,_,_=>none
  else none
 |_=>none
theorem c98(r:HRel E.G I K ρ h w){x:AV}{ks vs:List AV}{c:Value}(ha:b0t h x=some (ks,vs))(hx:VRel I w ρ x c) :
 (c = .map none∧ks=[]∧vs=[])∨∃b es cl,c = .map (some b)∧w.heap[b]?=some (.map es cl)∧VRels I w ρ ks (es.toList.map (·.key))∧VRels I w ρ vs (es.toList.map (·.val)):=by
 unfold b0t at ha;split at ha
 ·cases ha;simp only[VRel]at hx;exact .inl ⟨hx,rfl,rfl⟩
 ·cases ha;simp only[VRel]at hx;obtain⟨b,es,rfl,_,he,h1,h2,_⟩:=hx;exact .inr ⟨b,es,_,rfl,he,VRels.noRef_any h1,VRels.noRef_any h2⟩
 ·rename_i b;split at ha
  case h_2=>cases ha
  rename_i ie dj bs cl hb;cases ha;simp only[VRel]at hx;obtain⟨m,hm,rfl⟩:=hx;obtain⟨m',a9,_,_,ho⟩:=r.live b _ hb;obtain rfl:m=m':=z9o (hm.symm.trans a9);obtain⟨es,he,h1,h2,_⟩:=ho;exact .inr ⟨m.blk,es,cl,rfl,he,h1,h2⟩
 ·cases ha
theorem b5l(ok:EnvOk E){t:TypeId}{d:TypeDesc}{z:List AV}{zv:Value}(hd:E.und t=some d)(hz:E.zero t=some z)(dq:(zeroValue t).run E.P w = .ok zv w) :
 (a1t d=true→∃a,zv = .agg a)∧(a1t d=false→zv.cells = #[zv]):=by
 obtain⟨_,i,z',hi,dG,_⟩:=ok.zero t z hz;have:zv=z':=by simp[zeroValue,typeInfo,hi,dG]at dq;exact dq.symm
 subst this;exact ok.zshape t d i zv hd hi dG
theorem c4o(ok:EnvOk E)(r:HRel E.G I K ρ h w){t:TypeId}{x k v:AV}{c ck:Value}{b:Bool}(hv:a5f E h t x k b=some v)(hx:VRel I w ρ x c)(hk:VRel I w ρ k ck) :
 Val E I K ρ h n w (Instr.lookup t c ck b) v .none:=by
 unfold a5f at hv;split at hv
 case h_2=>cases hv
 rename_i kt et hu;rw[cond_eq_ite]at hv;split at hv
 case isFalse=>cases hv
 rename_i bJ;simp only[c11]at bJ;split at hv
 case h_2=>cases hv
 rename_i ks vs z d hm hz hd;obtain⟨zv,dq,_,bo⟩:=a68 ok w hz;have bH:VRels I w ρ z zv.cells.toList:=VRels.noRef_any (bo I w);have ib:∃es:List MapEntry,((c = .map none∧es=[])∨∃b cl,c = .map (some b)∧w.heap[b]?=some (.map es.toArray cl))∧VRels I w ρ ks (es.map (·.key))∧VRels I w ρ vs (es.map (·.val)):=by
  rcases c98 r hm hx with ⟨rfl,rfl,rfl⟩|⟨b,es,cl,rfl,he,h1,h2⟩
  ·exact⟨[],.inl ⟨rfl,rfl⟩,by simp[VRels],by simp[VRels]⟩
  ·exact⟨es.toList,.inr ⟨b,cl,rfl,by simpa using he⟩,h1,h2⟩
 obtain⟨es,ae,cL,eG⟩:=ib;cases hf:a1j (aeq E 6 kt) k ks 0 with
 |none=>simp[hf]at hv
 |some ri=>
  obtain⟨e7,ak⟩:=b03 ok bJ.1 hk hf cL;have bX:=b35 ok bJ.1 hk bJ.2 es.toArray.isEmpty;simp only[hf]at hv;cases ri with
  |some i=>
   simp only at hv;cases my:vs[i]? with
   |none=>simp[my]at hv
   |some v0=>
    simp only[my,Option.some.injEq]at hv;obtain⟨cv,aQ,kf⟩:=VRels.get i eG my;have cF:((es[i]?).map (·.val)).getD undef=cv:=by rw[e5n]at aQ;rw[aQ];rfl
    refine Val.here (c:=if b then .tuple #[cv,.bool true]else cv) r ?_ ?_
    ·rcases ae with ⟨rfl,rfl⟩|⟨b',cl,rfl,he⟩
     ·simp at aQ
     ·simp only[Instr.lookup,Sem.run_bind,a07 ok w hu,Result.andThen_ok,getObj,Sem.run,he,Sem.run_pure,bX,e7,e5p,cF]
    ·subst hv;cases b
     ·exact kf
     ·simp only[e6m,e8f,VRel];exact⟨_,rfl,by simp only[VRels];exact⟨_,_,rfl,kf,_,_,rfl,by simp[VRel],rfl⟩⟩
  |none=>
   simp only at hv;have lC:(Instr.lookup t c ck b).run E.P w = .ok (if b then .tuple #[zv,.bool false]else zv) w:=by
    rcases ae with ⟨rfl,rfl⟩|⟨b',cl,rfl,he⟩
    ·simp only[Instr.lookup,Sem.run_bind,a07 ok w hu,Result.andThen_ok,Sem.run_pure,bX,e7,Option.map_none,dq]
    ·simp only[Instr.lookup,Sem.run_bind,a07 ok w hu,Result.andThen_ok,getObj,Sem.run,he,Sem.run_pure,bX,e7,Option.map_none,dq]
   have fin:∀v0,VRel I w ρ v0 zv→(bif b then AV.tuple [v0,.bool false]else v0)=v→Val E I K ρ h n w (Instr.lookup t c ck b) v .none:=by
    intro v0 h0 kS;refine Val.here r lC ?_;subst kS;cases b
    ·exact h0
    ·simp only[e6m,e8f,VRel];exact⟨_,rfl,by simp only[VRels];exact⟨_,_,rfl,h0,_,_,rfl,by simp[VRel],rfl⟩⟩
   rw[cond_eq_ite]at hv;split at hv
   ·rename_i cV;obtain⟨a,rfl⟩:=(b5l ok hd hz dq).1 cV;simp only[Option.some.injEq]at hv;exact fin (.agg z) (by simp only[VRel];exact⟨a,rfl,bH⟩) hv
   ·rename_i cV;split at hv
    case h_2=>cases hv
    rename_i v0 _;simp only[Option.some.injEq]at hv;have hc:=(b5l ok hd hz dq).2 (by simpa using cV);rw[hc]at bH;simp only[VRels]at bH;obtain⟨c0,m5,he,h0,_⟩:=bH;simp only[List.cons.injEq]at he;exact fin v0 (by rw[he.1];exact h0) hv
end
end Go.Ax
/- AxMap2: maps that are b5n. -/
namespace Go.Ax
section
variable {E:Env}{I K:Nat→Prop}{ρ:PMap}{h:FHeap}{n:Nat}{w:World}
def a85(E:Env)(h:FHeap)(t:TypeId)(m k:AV):Option (Nat×List AV×List AV×List Nat×Nat×Option Nat):=
 match E.und t,m with
 |some (.map kt _),.map b=>bif b87 E kt&&b4t E kt k then
  match h b with
  |some (.map ks vs bs cl)=>match a1j (aeq E 6 kt) k ks 0 with
   |some (some i)=>match ks[i]? with
    |some k0=>bif d32 k0 k then some (b,ks,vs,bs,cl,some i)else none
    |none=>none
   |some none=>some (b,ks,vs,bs,cl,none)
   |none=>none
  |_=>none
  else none
 |_,_=>none
def a1m(E:Env)(h:FHeap)(t:TypeId)(m k v:AV):Option Eff:=
 match a85 E h t m k with
 |some (b,ks,vs,bs,cl,some i)=>some (.set b (.map ks (vs.set i v) bs cl))
 |some (b,ks,vs,bs,cl,none)=>some (.set b (.map (ks++[k]) (vs++[v]) (bs++[cl]) (cl+1)))
 |none=>none
theorem a3x{ks:List AV}{es:Array MapEntry}(i:Nat)(f:MapEntry→MapEntry)(hf:∀e,es[i]?=some e→(f e).key=e.key)(hk:VRels I w ρ ks (es.toList.map (·.key))) :
 VRels I w ρ ks ((es.modify i f).toList.map (·.key)):=by
 have:(es.modify i f).toList.map (·.key)=es.toList.map (·.key):=by
  apply e7s;intro j;simp only[e5n,e8r,Array.getElem?_modify];split
  ·rename_i hj;subst hj;cases he:es[i]? with
   |none=>simp
   |some e=>simp[hf e he]
  ·rfl
 rw[this];exact hk
theorem a5p{vs:List AV}{v:AV}{c:Value}{es:Array MapEntry}(i:Nat)(f:MapEntry→MapEntry)(hf:∀e,(f e).val=c)(hv:VRel I w ρ v c)(hk:VRels I w ρ vs (es.toList.map (·.val))) :
 VRels I w ρ (vs.set i v) ((es.modify i f).toList.map (·.val)):=by
 have:(es.modify i f).toList.map (·.val)=(es.toList.map (·.val)).set i c:=by
  apply e7s;intro j;simp only[e5n,e8r,Array.getElem?_modify,e70,c10,e6t];split
  ·rename_i hj;subst hj;split
   ·rename_i ak;simp[ak,hf]
   ·rename_i ak;simp[Array.getElem?_eq_none (Nat.le_of_not_lt ak)]
  ·rfl
 rw[this];exact VRels.set i hk hv
theorem a7j{es:Array MapEntry}(i:Nat)(f:MapEntry→MapEntry)(hf:∀e,(f e).born=e.born):(es.modify i f).toList.map (·.born)=es.toList.map (·.born):=by
 apply e7s;intro j;simp only[e5n,e8r,Array.getElem?_modify];split
 ·rename_i hj;subst hj;cases es[i]?<;>simp[hf]
 ·rfl
theorem a2t{b:Nat}{es:Array MapEntry}{cl:Nat}(o:Obj)(he:w.heap[b]?=some (.map es cl)):(setObj b o).run E.P w = .ok () { w with heap:=w.heap.setIfInBounds b o }:=by simp[setObj,Sem.run,he]
theorem a53(r:HRel E.G I K ρ h w){b:Nat}{m:Pl}{o0:AObj}(hb:h b=some o0)(hm:ρ b=some m){es cg:Array MapEntry}{cl eL:Nat}(he:w.heap[m.blk]?=some (.map es cl))
 {ks vs:List AV}{bs:List Nat}(hk:VRels I w ρ ks (cg.toList.map (·.key)))(hv:VRels I w ρ vs (cg.toList.map (·.val)))(ox:cg.toList.map (·.born)=bs) :
 Stepped E.G I K ρ w I ρ (h.eff n (.set b (.map ks vs bs eL))) { w with heap:=w.heap.setIfInBounds m.blk (.map cg eL) }:=by
 have ak:m.blk<w.heap.size:=(e7j.1 he).1;obtain⟨m',a9,cK,_,_⟩:=r.live b _ hb;obtain rfl:m=m':=z9o (hm.symm.trans a9);have bv:∀c,c≠m.blk→({ w with heap:=w.heap.setIfInBounds m.blk (.map cg eL) }:World).heap[c]?=w.heap[c]?:=by intro c hc;show(w.heap.setIfInBounds _ _)[c]?=_;rw[e7i,e5s (λh=>hc h.symm)]
 have bP:∀c,I c→({ w with heap:=w.heap.setIfInBounds m.blk (.map cg eL) }:World).heap[c]?=w.heap[c]?:=λc hc=>bv c (λe=>cK (e▸hc));refine a1n r hb hm (by simp) bv rfl rfl rfl ?_;refine⟨cg,?_,VRels.mono (λ_ h=>h) bP ks (λ_ _ h=>h) hk,VRels.mono (λ_ h=>h) bP vs (λ_ _ h=>h) hv,ox⟩;show(w.heap.setIfInBounds _ _)[_]?=_;rw[e7i,e6q rfl,e6q ak]
theorem a9b(ok:EnvOk E)(r:HRel E.G I K ρ h w){t:TypeId}{m k:AV}{c ck:Value}{b cl:Nat}{ks vs:List AV}{bs:List Nat}{oi:Option Nat}
 (hp:a85 E h t m k=some (b,ks,vs,bs,cl,oi))(hm:VRel I w ρ m c)(hk:VRel I w ρ k ck) :
 ∃(pl:Pl) (es:Array MapEntry) (kt et:TypeId),c = .map (some pl.blk)∧h b=some (.map ks vs bs cl)∧ρ b=some pl∧w.heap[pl.blk]?=some (.map es cl)∧
  VRels I w ρ ks (es.toList.map (·.key))∧VRels I w ρ vs (es.toList.map (·.val))∧es.toList.map (·.born)=bs∧(underlying t).run E.P w = .ok (.map kt et) w∧E.und t=some (.map kt et)∧
  (Instr.checkKey false 10000 kt ck).run E.P w = .ok () w∧
  (Instr.findKey kt ck es.toList).run E.P w = .ok (oi.map λj=>(j,((es.toList[j]?).map (·.val)).getD undef)) w∧
  (∀i,oi=some i→∃e,es[i]?=some e∧e.key=ck∧Instr.sameBits 10000 e.key ck=true):=by
 unfold a85 at hp;split at hp
 case h_2=>cases hp
 rename_i kt et b' hu;rw[cond_eq_ite]at hp;split at hp
 case isFalse=>cases hp
 rename_i bJ;simp only[c11]at bJ;split at hp
 case h_2=>cases hp
 rename_i ie dj sL eL hb;simp only[VRel]at hm;obtain⟨pl,bV,rfl⟩:=hm;obtain⟨m',a9,_,_,ho⟩:=r.live b' _ hb;obtain rfl:pl=m':=z9o (bV.symm.trans a9);obtain⟨es,he,h1,h2,h3⟩:=ho;have bX:=b35 (w:=w) ok bJ.1 hk bJ.2 false;split at hp
 ·rename_i i hf;split at hp
  case h_2=>cases hp
  rename_i k0 hk0;rw[cond_eq_ite]at hp;split at hp
  case isFalse=>cases hp
  rename_i hs;cases hp;obtain⟨e7,ak⟩:=b03 ok bJ.1 hk hf h1;obtain⟨cv,aQ,kf⟩:=VRels.get i h1 hk0;obtain⟨bW,jx⟩:=d31 hs kf hk;rw[e5n]at aQ;cases fT:es.toList[i]? with
  |none=>rw[fT]at aQ;cases aQ
  |some e=>rw[fT]at aQ;simp only[e5p,Option.some.injEq]at aQ;refine⟨pl,es,kt,et,rfl,hb,bV,he,h1,h2,h3,a07 ok w hu,hu,bX,e7,?_⟩;intro i' gz;cases gz;exact⟨e,by simpa using fT,by rw[aQ];exact bW,by rw[aQ];exact jx⟩
 ·rename_i hf;cases hp;obtain⟨e7,ak⟩:=b03 ok bJ.1 hk hf h1;exact⟨pl,es,kt,et,rfl,hb,bV,he,h1,h2,h3,a07 ok w hu,hu,bX,e7,λi hi=>by cases hi⟩
 ·cases hp
theorem a9d(ok:EnvOk E)(r:HRel E.G I K ρ h w){t:TypeId}{m k v:AV}{c ck cv:Value}{e:Eff}(hu:a1m E h t m k v=some e)(hm:VRel I w ρ m c)(hk:VRel I w ρ k ck)(hv:VRel I w ρ v cv) :
 e1y E I K ρ h n w (Instr.mapUpdate t c ck cv) e:=by
 unfold a1m at hu;split at hu
 ·rename_i b ks vs bs cl i hp;cases hu;obtain⟨pl,es,kt,et,rfl,hb,bV,he,h1,h2,h3,d7,_,bX,e7,hi⟩:=a9b ok r hp hm hk;obtain⟨e,fT,oh,jx⟩:=hi i rfl;refine⟨_,ρ,?_,a53 (cg:=es.modify i λe=>{ e with key:=ck,val:=cv }) r hb bV he ?_ ?_ ?_,Moves.same _ _ _⟩
  ·have:((es[i]?).map (·.key)).getD ck=e.key:=by simp[fT]
   simp only[Instr.mapUpdate,Sem.run_bind,d7,Result.andThen_ok,getObj,Sem.run,he,bX,e7,e5p,this,Instr.keyThatStays,jx,e8f,Sem.run_pure,a2t _ he]
  ·exact a3x i _ (λe' dP=>by rw[fT]at dP;cases dP;exact oh.symm) h1
  ·exact a5p i _ (λ_=>rfl) hv h2
  ·exact(a7j (es:=es) i (λe=>{ e with key:=ck,val:=cv }) (λ_=>rfl)).trans h3
 ·rename_i b ks vs bs cl hp;cases hu;obtain⟨pl,es,kt,et,rfl,hb,bV,he,h1,h2,h3,d7,_,bX,e7,_⟩:=a9b ok r hp hm hk;refine⟨_,ρ,?_,a53 (cg:=es.push { key:=ck,val:=cv,born:=cl }) (eL:=cl+1) r hb bV he ?_ ?_ ?_,Moves.same _ _ _⟩
  ·simp only[Instr.mapUpdate,Sem.run_bind,d7,Result.andThen_ok,getObj,Sem.run,he,bX,e7,Option.map_none,a2t _ he]
  ·simp only[e9h,e6r,e4r,e5j];exact VRels.append h1 (by simp only[VRels];exact⟨_,_,rfl,hk,rfl⟩)
  ·simp only[e9h,e6r,e4r,e5j];exact VRels.append h2 (by simp only[VRels];exact⟨_,_,rfl,hv,rfl⟩)
  ·simp[h3]
 ·cases hu
def b93(d:TypeDesc)(z:List AV):Option AV:=bif a1t d then some (.agg z)else match z with|[v]=>some v|_=>none
def a9e(E:Env)(h:FHeap)(t:TypeId)(m k:AV):Option (AV×Eff):=
 match a85 E h t m k with
 |some (b,ks,vs,bs,cl,some i)=>match vs[i]?,bs[i]? with
  |some v,some s=>some (.tuple [v,.int .i64 s],.set b (.map ks vs bs cl))
  |_,_=>none
 |some (b,ks,vs,bs,cl,none)=>match E.und t with
  |some (.map _ et)=>match E.zero et,E.und et with
   |some z,some d=>match b93 d z with
    |some v=>some (.tuple [v,.int .i64 cl],.set b (.map (ks++[k]) (vs++[v]) (bs++[cl]) (cl+1)))
    |none=>none
   |_,_=>none
  |_=>none
 |none=>none
theorem c9r(ok:EnvOk E){t:TypeId}{d:TypeDesc}{z:List AV}{v:AV}(hd:E.und t=some d)(hz:E.zero t=some z)
 (hv:b93 d z=some v):∃zv,(∀w',(zeroValue t).run E.P w' = .ok zv w')∧∀I w' ρ,VRel I w' ρ v zv:=by
 obtain⟨_,i,z',hi,dG,_,bo⟩:=ok.zero t z hz;have ae:∀w',(zeroValue t).run E.P w' = .ok z' w':=λw'=>by simp[zeroValue,typeInfo,hi,dG]
 obtain⟨s1,s2⟩:=ok.zshape t d i z' hd hi dG;refine⟨z',ae,λI w' ρ=>?_⟩;have bH:VRels I w' ρ z z'.cells.toList:=VRels.noRef_any (bo I w');unfold b93 at hv;rw[cond_eq_ite]at hv;split at hv
 ·rename_i cV;obtain⟨a,rfl⟩:=s1 cV;simp only[Option.some.injEq]at hv;subst hv;simp only[VRel];exact⟨a,rfl,bH⟩
 ·rename_i cV;split at hv
  case h_2=>cases hv
  cases hv;rw[s2 (by simpa using cV)]at bH;simp only[VRels]at bH;obtain⟨c0,m5,he,h0,_⟩:=bH;simp only[List.cons.injEq]at he;rw[he.1];exact h0
theorem b8y(ok:EnvOk E)(r:HRel E.G I K ρ h w){t:TypeId}{m k v:AV}{c ck:Value}{e:Eff}(hu:a9e E h t m k=some (v,e))(hm:VRel I w ρ m c)(hk:VRel I w ρ k ck) :
 Val E I K ρ h n w (Instr.mapEntry t c ck) v e:=by
 unfold a9e at hu;split at hu
 ·rename_i b ks vs bs cl i hp;split at hu
  case h_2=>cases hu
  rename_i v0 s kS hs;cases hu;obtain⟨pl,es,kt,et,rfl,hb,bV,he,h1,h2,h3,d7,_,bX,e7,hi⟩:=a9b ok r hp hm hk;obtain⟨e,fT,oh,jx⟩:=hi i rfl;obtain⟨cv,aQ,kf⟩:=VRels.get i h2 kS;have aI:(es.toList.map (·.born))[i]?=some s:=by rw[h3];exact hs
  rw[e5n]at aQ aI;have ol:es.toList[i]?=some e:=by simpa using fT
  rw[ol]at aQ aI;simp only[e5p,Option.some.injEq]at aQ aI;have step:=a53 (n:=n) (cg:=es.modify i λe=>{ e with key:=ck }) (eL:=cl) r hb bV he (a3x i _ (λe' dP=>by rw[fT]at dP;cases dP;exact oh.symm) h1)
   (show VRels I w ρ vs _ by
    have:(es.modify i λe=>{ e with key:=ck }).toList.map (·.val)=es.toList.map (·.val):=by
     apply e7s;intro j;simp only[e5n,e8r,Array.getElem?_modify];split
     ·rename_i hj;subst hj;cases es[i]?<;>simp
     ·rfl
    rw[this];exact h2) ((a7j (es:=es) i (λe=>{ e with key:=ck }) (λ_=>rfl)).trans h3)
  refine⟨.tuple #[cv,goInt s],_,ρ,?_,step,?_,Moves.same _ _ _⟩
  ·have h5:((es[i]?).map (·.key)).getD ck=e.key:=by simp[fT]
   have h6:((es[i]?).map (λx=>(x.born:Int))).getD 0=s:=by simp[fT,aI]
   have h7:((es.toList[i]?).map (·.val)).getD undef=cv:=by simp[fT,aQ]
   simp only[Instr.mapEntry,Sem.run_bind,d7,Result.andThen_ok,getObj,Sem.run,he,bX,e7,e5p,h5,h6,h7,Instr.keyThatStays,jx,e8f,Sem.run_pure,a2t _ he]
  ·refine step.vrel ?_;simp only[VRel];exact⟨_,rfl,by simp only[VRels];exact⟨_,_,rfl,kf,_,_,rfl,by simp[VRel,goInt],rfl⟩⟩
 ·rename_i b ks vs bs cl hp;split at hu
  case h_2=>cases hu
  rename_i r9 et kT;split at hu
  case h_2=>cases hu
  rename_i z d hz hd;split at hu
  case h_2=>cases hu
  rename_i v0 kS;cases hu;obtain⟨pl,es,kt,sH,rfl,hb,bV,he,h1,h2,h3,d7,gj,bX,e7,_⟩:=a9b ok r hp hm hk;rw[kT]at gj;simp only[Option.some.injEq,TypeDesc.map.injEq]at gj;obtain⟨rfl,rfl⟩:=gj;obtain⟨zv,dq,bH⟩:=c9r ok hd hz kS;have step:=a53 (n:=n) (cg:=es.push { key:=ck,val:=zv,born:=cl }) (eL:=cl+1) (ks:=ks++[k]) (vs:=vs++[v0]) (bs:=bs++[cl]) r hb bV he
   (by simp only[e9h,e6r,e4r,e5j];exact VRels.append h1 (by simp only[VRels];exact⟨_,_,rfl,hk,rfl⟩))
   (by simp only[e9h,e6r,e4r,e5j];exact VRels.append h2 (by simp only[VRels];exact⟨_,_,rfl,bH _ _ _,rfl⟩)) (by simp[h3])
  refine⟨.tuple #[zv,goInt cl],_,ρ,?_,step,?_,Moves.same _ _ _⟩
  ·simp only[Instr.mapEntry,Sem.run_bind,d7,Result.andThen_ok,getObj,Sem.run,he,bX,e7,Option.map_none,dq,a2t _ he,Sem.run_pure]
  ·simp only[VRel];exact⟨_,rfl,by simp only[VRels];exact⟨_,_,rfl,bH _ _ _,_,_,rfl,by simp[VRel,goInt],rfl⟩⟩
 ·cases hu
def a45(h:FHeap)(m s v:AV):Option Eff:=
 match m,s with
 |.map b,.int _ i=>match h b with
  |some (.map ks vs bs cl)=>match bs.findIdx? (λ(x:Nat)=>(x:Int)==i)with
   |some j=>some (.set b (.map ks (vs.set j v) bs cl))
   |none=>none
  |_=>none
 |_,_=>none
theorem b3x(r:HRel E.G I K ρ h w){t:TypeId}{m s v:AV}{c cs cv:Value}{e:Eff}(hu:a45 h m s v=some e)(hm:VRel I w ρ m c)(hs:VRel I w ρ s cs)(hv:VRel I w ρ v cv) :
 e1y E I K ρ h n w (Instr.entryStore t c cs cv) e:=by
 unfold a45 at hu;split at hu
 case h_2=>cases hu
 rename_i b kk i;split at hu
 case h_2=>cases hu
 rename_i ks vs bs cl hb;split at hu
 case h_2=>cases hu
 rename_i j hj;cases hu;simp only[VRel]at hm hs;obtain⟨pl,bV,rfl⟩:=hm;subst hs;obtain⟨m',a9,_,_,ho⟩:=r.live b _ hb;obtain rfl:pl=m':=z9o (bV.symm.trans a9);obtain⟨es,he,h1,h2,h3⟩:=ho;have jP:es.findIdx? (λe=>(e.born:Int)==i)=some j:=by rw[←h3,List.findIdx?_map]at hj;rw[show es.findIdx? (λe=>(e.born:Int)==i)=es.toList.findIdx? (λe=>(e.born:Int)==i) by cases es;simp];exact hj
 refine⟨_,ρ,?_,a53 (cg:=es.modify j λe=>{ e with val:=cv }) r hb bV he ?_ ?_ ?_,Moves.same _ _ _⟩
 ·simp only[Instr.entryStore,Sem.run_bind,getObj,Sem.run,he,Result.andThen_ok,asInt,asIntOf,Sem.run_pure,jP,a2t _ he]
 ·exact a3x j _ (λ_ _=>rfl) h1
 ·exact a5p j _ (λ_=>rfl) hv h2
 ·exact(a7j (es:=es) j (λe=>{ e with val:=cv }) (λ_=>rfl)).trans h3
end
end Go.Ax
/- AxSet: sets of numbers: lookup, update, delete, ranging. -/
namespace Go.Ax
section
variable {E:Env}{I K:Nat→Prop}{ρ:PMap}{h:FHeap}{n:Nat}{w:World}
def oor{α:Type}(a b:Option α):Option α:=match a with
 |some x=>some x
 |none=>b
theorem a8f{α:Type}{a b:Option α}{x:α}(h:oor a b=some x):a=some x∨b=some x:=by
 cases a with
 |none=>exact .inr h
 |some y=>exact .inl h
def e0o:Option TypeDesc→Bool
 |some (.int .i64)=>true
 |_=>false
def c7l:Option TypeDesc→Bool
 |some .bool=>true
 |_=>false
def c1s:Option (List AV)→Bool
 |some [.bool b]=>!b
 |_=>false
def b5o(E:Env)(t:TypeId):Bool:=match E.und t with
 |some (.map kt et)=>e0o (E.und kt)&&(c7l (E.und et)&&c1s (E.zero et))
 |_=>false
theorem b1j{t:TypeId}(hu:b5o E t=true):∃kt et,E.und t=some (.map kt et)∧E.und kt=some (.int .i64)∧E.und et=some .bool∧E.zero et=some [.bool false]:=by
 unfold b5o at hu;split at hu
 case h_2=>cases hu
 rename_i kt et he;simp only[c11]at hu;obtain⟨h1,h2,h3⟩:=hu;refine⟨kt,et,he,?_,?_,?_⟩
 ·unfold e0o at h1;split at h1
  ·assumption
  ·cases h1
 ·unfold c7l at h2;split at h2
  ·assumption
  ·cases h2
 ·unfold c1s at h3;split at h3
  ·rename_i b hb;cases b
   ·exact hb
   ·cases h3
  ·cases h3
section
variable {ks:List Int}{es:Array MapEntry}{cl:Nat}
theorem USet.key(hs:USet ks es cl){e:MapEntry}(he:e∈es.toList):∃y∈ks,e.key = .int .i64 y:=by have h1:=hs.1.mem_iff.1 (e81 (f:=(·.key)) he);obtain⟨y,hy,h2⟩:=e7t.1 h1;exact⟨y,hy,h2.symm⟩
theorem USet.has(hs:USet ks es cl){x:Int}(hx:x∈ks):∃e∈es.toList,e.key = .int .i64 x:=by have h1:=hs.1.mem_iff.2 (e81 (f:=Value.int .i64) hx);obtain⟨e,he,h2⟩:=e7t.1 h1;exact⟨e,he,h2⟩
theorem b6e{a b:Int}(h:Value.int .i64 a=Value.int .i64 b):a=b:=by cases h;rfl
theorem USet.keys_nodup(hs:USet ks es cl):(es.toList.map (·.key)).Nodup:=by rw[hs.1.nodup_iff];exact List.Pairwise.map _ (λa b cB e=>cB (b6e e)) hs.2.2.1
theorem b2v(x:Int):∀(es:List MapEntry) (i:Nat),(∀e∈es,∃y,e.key = .int .i64 y)→
 (∃j e,es[j]?=some e∧e.key = .int .i64 x∧Instr.findNow (.int .i64) (.int .i64 x) es i=some (some (i+j,e.val)))∨
  ((∀e∈es,e.key≠ .int .i64 x)∧Instr.findNow (.int .i64) (.int .i64 x) es i=some none)
 | [],i,_=>.inr ⟨by simp,rfl⟩
 |e::es,i,h=>by
  obtain⟨y,hy⟩:=h e (by simp);by_cases ni:x=y
  ·subst ni;exact .inl ⟨0,e,rfl,hy,by simp[Instr.findNow,Instr.sameNow,hy]⟩
  ·have e1:Instr.findNow (.int .i64) (.int .i64 x) (e::es) i=Instr.findNow (.int .i64) (.int .i64 x) es (i+1):=by
    have hb:(x==y)=false:=by simpa using ni
    simp[Instr.findNow,Instr.sameNow,hy,hb]
   rcases b2v x es (i+1) (λe he=>h e (by simp[he]))with ⟨j,e',h1,h2,h3⟩|⟨h1,h2⟩
   ·exact .inl ⟨j+1,e',by simpa using h1,h2,by rw[e1,h3,show i+1+j=i+(j+1) by omega]⟩
   ·refine .inr ⟨?_,by rw[e1,h2]⟩;intro e' dP;rcases e6v.1 dP with rfl|dP
    ·rw[hy];exact λe=>ni (b6e e).symm
    ·exact h1 e' dP
theorem b5u(ok:EnvOk E){kt:TypeId}(hk:E.und kt=some (.int .i64))(hs:USet ks es cl)(x:Int) :
 (∃j e,es[j]?=some e∧e.key = .int .i64 x∧x∈ks∧(Instr.findKey kt (.int .i64 x) es.toList).run E.P w = .ok (some (j,.bool true)) w)∨
  (x∉ks∧(Instr.findKey kt (.int .i64 x) es.toList).run E.P w = .ok none w):=by
 rcases b2v x es.toList 0 (λe he=>by obtain⟨y,_,h⟩:=hs.key he;exact⟨y,h⟩)with ⟨j,e,h1,h2,h3⟩|⟨h1,h2⟩
 ·refine .inl ⟨j,e,by simpa using h1,h2,?_,?_⟩
  ·obtain⟨y,hy,h4⟩:=hs.key (e12 h1);rw[h2]at h4;rw[b6e h4];exact hy
  ·unfold Instr.findKey;simp only[Sem.run_bind,a07 ok w hk,Result.andThen_ok,h3,e7l,hs.2.1 e (e12 h1),Sem.run_pure]
 ·refine .inr ⟨λhx=>?_,?_⟩
  ·obtain⟨e,he,h3⟩:=hs.has hx;exact h1 e he h3
  ·unfold Instr.findKey;simp only[Sem.run_bind,a07 ok w hk,Result.andThen_ok,h2,Sem.run_pure]
end
def b41(h:FHeap):AV→Option (List Int)
 |.iset ks=>some ks
 |.map b=>match h b with
  |some (.uset ks)=>some ks
  |_=>none
 |_=>none
theorem c5b(r:HRel E.G I K ρ h w){x:AV}{ks:List Int}{c:Value}(hu:b41 h x=some ks)(hx:VRel I w ρ x c) :
 ∃b es cl,c = .map (some b)∧w.heap[b]?=some (.map es cl)∧USet ks es cl:=by
 unfold b41 at hu;split at hu
 ·cases hu;simp only[VRel]at hx;obtain⟨b,es,cl,rfl,_,he,hs⟩:=hx;exact⟨b,es,cl,rfl,he,hs⟩
 ·rename_i b;split at hu
  case h_2=>cases hu
  rename_i ie hb;cases hu;simp only[VRel]at hx;obtain⟨m,hm,rfl⟩:=hx;obtain⟨m',a9,_,_,es,cl,he,hs⟩:=r.live b _ hb;obtain rfl:m=m':=z9o (hm.symm.trans a9);exact⟨m.blk,es,cl,rfl,he,hs⟩
 ·cases hu
/-! ### lookup -/
def b3g(E:Env)(h:FHeap)(t:TypeId)(x k:AV)(ok:Bool):Option AV:=match b41 h x,k with
 |some ks,.int .i64 i=>bif b5o E t then some (bif ok then .tuple [.bool (ks.contains i),.bool (ks.contains i)]else .bool (ks.contains i))else none
 |_,_=>none
theorem c99(ok:EnvOk E)(r:HRel E.G I K ρ h w){t:TypeId}{x k v:AV}{c ck:Value}{b:Bool}(hv:b3g E h t x k b=some v)(hx:VRel I w ρ x c)(hk:VRel I w ρ k ck) :
 Val E I K ρ h n w (Instr.lookup t c ck b) v .none:=by
 unfold b3g at hv;split at hv
 case h_2=>cases hv
 rename_i ks i hu;rw[cond_eq_ite]at hv;split at hv
 case isFalse=>cases hv
 rename_i ht;obtain⟨kt,et,h1,h2,h3,h4⟩:=b1j ht;obtain⟨bb,es,cl,rfl,he,hs⟩:=c5b r hu hx;simp only[VRel]at hk;subst hk;have bX:=a38 (w:=w) ok (d:=.int .i64) rfl h2 es.isEmpty 9999 (.int .i64 i);have fin:∀q:Bool,(Instr.lookup t (.map (some bb)) (.int .i64 i) b).run E.P w = .ok (if b then .tuple #[.bool q,.bool q]else .bool q) w→ks.contains i=q→Val E I K ρ h n w (Instr.lookup t (.map (some bb)) (.int .i64 i) b) v .none:=by
  intro q ae hq;rw[hq]at hv;refine Val.here r ae ?_;cases b
  ·simp only[e6w,Option.some.injEq]at hv;subst hv;simp[VRel]
  ·simp only[e6m,Option.some.injEq]at hv;subst hv;simp only[e8f,VRel];exact⟨_,rfl,by simp only[VRels];exact⟨_,_,rfl,by simp[VRel],_,_,rfl,by simp[VRel],rfl⟩⟩
 rcases b5u (w:=w) ok h2 hs i with ⟨j,e,g1,g2,g3,g4⟩|⟨g1,g2⟩
 ·refine fin true ?_ (by simpa using g3);simp only[Instr.lookup,Sem.run_bind,a07 ok w h1,Result.andThen_ok,getObj,Sem.run,he,Sem.run_pure,bX,g4]
 ·refine fin false ?_ (by simpa using g1);obtain⟨zv,dq,_,bo⟩:=a68 ok w h4;have bH:VRels I w ρ [.bool false] zv.cells.toList:=VRels.noRef_any (bo I w);rw[(b5l ok h3 h4 dq).2 rfl]at bH;simp only[VRels]at bH;obtain⟨c0,m5,pJ,h0,_⟩:=bH;simp only[List.cons.injEq]at pJ;rw[←pJ.1]at h0;simp only[VRel]at h0;subst h0;simp only[Instr.lookup,Sem.run_bind,a07 ok w h1,Result.andThen_ok,getObj,Sem.run,he,Sem.run_pure,bX,g2,dq]
/-! ### update -/
def e2y(x:Int):List Int→List Int
 | []=>[x]
 |y::l=>bif decide (x<y)then x::y::l else y::e2y x l
theorem b89(x:Int):∀l:List Int,(e2y x l).Perm (x::l)
 | []=>List.Perm.refl _
 |y::l=>by
  simp only[e2y,cond_eq_ite];split
  ·exact List.Perm.refl _
  ·exact((b89 x l).cons y).trans (List.Perm.swap ..)
theorem a9v{α:Type}(g:MapEntry→α){es:Array MapEntry}(i:Nat)(f:MapEntry→MapEntry)(hf:∀e,es[i]?=some e→g (f e)=g e):(es.modify i f).toList.map g=es.toList.map g:=by
 apply e7s;intro j;simp only[e5n,e8r,Array.getElem?_modify];split
 ·rename_i hj;subst hj;cases he:es[i]? with
  |none=>simp
  |some e=>simp[hf e he]
 ·rfl
theorem a5q{ks:List Int}{es:Array MapEntry}{cl:Nat}:USet ks es cl↔(es.toList.map (·.key)).Perm (ks.map (Value.int .i64))∧(∀v∈es.toList.map (·.val),v = .bool true)∧ks.Nodup∧(es.toList.map (·.born)).Nodup∧∀b∈es.toList.map (·.born),b<cl:=by unfold USet;simp only[e7t,forall_exists_index,and_imp,forall_apply_eq_imp_iff₂]
theorem a5j(r:HRel E.G I K ρ h w){b:Nat}{m:Pl}{o0:AObj}(hb:h b=some o0)(hm:ρ b=some m){es cg:Array MapEntry}{cl eL:Nat}(he:w.heap[m.blk]?=some (.map es cl)){ks:List Int}(hs:USet ks cg eL) :
 Stepped E.G I K ρ w I ρ (h.eff n (.set b (.uset ks))) { w with heap:=w.heap.setIfInBounds m.blk (.map cg eL) }:=by
 have ak:m.blk<w.heap.size:=(e7j.1 he).1;have bv:∀c,c≠m.blk→({ w with heap:=w.heap.setIfInBounds m.blk (.map cg eL) }:World).heap[c]?=w.heap[c]?:=by intro c hc;show(w.heap.setIfInBounds _ _)[c]?=_;rw[e7i,e5s (λh=>hc h.symm)]
 refine a1n r hb hm (by simp) bv rfl rfl rfl ⟨cg,eL,?_,hs⟩;show(w.heap.setIfInBounds _ _)[_]?=_;rw[e7i,e6q rfl,e6q ak]
def b3u(E:Env)(h:FHeap)(t:TypeId)(m k v:AV):Option Eff:=match m,k,v with
 |.map b,.int .i64 i,.bool q=>match h b with
  |some (.uset ks)=>bif b5o E t&&q then some (.set b (.uset (bif ks.contains i then ks else e2y i ks)))else none
  |_=>none
 |_,_,_=>none
theorem c2h(ok:EnvOk E)(r:HRel E.G I K ρ h w){t:TypeId}{m k v:AV}{c ck cv:Value}{e:Eff}(hu:b3u E h t m k v=some e)(hm:VRel I w ρ m c)(hk:VRel I w ρ k ck)(hv:VRel I w ρ v cv) :
 e1y E I K ρ h n w (Instr.mapUpdate t c ck cv) e:=by
 unfold b3u at hu;split at hu
 case h_2=>cases hu
 rename_i b i q;split at hu
 case h_2=>cases hu
 rename_i ks hb;rw[cond_eq_ite]at hu;split at hu
 case isFalse=>cases hu
 rename_i ht;simp only[c11]at ht;obtain⟨ht,rfl⟩:=ht;cases hu;obtain⟨kt,et,h1,h2,h3,h4⟩:=b1j ht;simp only[VRel]at hm hk hv;subst hk hv;obtain⟨pl,bV,rfl⟩:=hm;obtain⟨m',a9,_,_,es,cl,he,hs⟩:=r.live b _ hb;obtain rfl:pl=m':=z9o (bV.symm.trans a9);have bX:=a38 (w:=w) ok (d:=.int .i64) rfl h2 false 9999 (.int .i64 i);rcases b5u (w:=w) ok h2 hs i with ⟨j,e,g1,g2,g3,g4⟩|⟨g1,g2⟩
 ·have hc:ks.contains i=true:=by simpa using g3
  rw[hc,e6m];obtain⟨s1,s2,s3,s4,s5⟩:=a5q.1 hs;have k1:(es.modify j λe=>{ e with key:=.int .i64 i,val:=.bool true }).toList.map (·.key)=es.toList.map (·.key):=a9v _ j _ (λe' dP=>by rw[g1]at dP;cases dP;exact g2.symm);have k2:(es.modify j λe=>{ e with key:=.int .i64 i,val:=.bool true }).toList.map (·.val)=es.toList.map (·.val):=a9v _ j _ (λe' dP=>(hs.2.1 e' (by simpa using Array.mem_of_getElem? dP)).symm);have k3:(es.modify j λe=>{ e with key:=.int .i64 i,val:=.bool true }).toList.map (·.born)=es.toList.map (·.born):=a9v _ j _ (λe' dP=>rfl);refine⟨_,ρ,?_,a5j (cg:=es.modify j λe=>{ e with key:=.int .i64 i,val:=.bool true }) r hb bV he (a5q.2 ⟨by rw[k1];exact s1,by rw[k2];exact s2,s3,by rw[k3];exact s4,by rw[k3];exact s5⟩),Moves.same _ _ _⟩;have h5:((es[j]?).map (·.key)).getD (.int .i64 i) = .int .i64 i:=by simp[g1,g2]
  have h6:Instr.sameBits 10000 (.int .i64 i) (.int .i64 i)=true:=by simp[Instr.sameBits]
  simp only[Instr.mapUpdate,Sem.run_bind,a07 ok w h1,Result.andThen_ok,getObj,Sem.run,he,bX,g4,h5,Instr.keyThatStays,h6,e8f,Sem.run_pure,a2t _ he]
 ·have hc:ks.contains i=false:=by simpa using g1
  rw[hc,e6w];obtain⟨s1,s2,s3,s4,s5⟩:=a5q.1 hs;have hp:=b89 i ks;refine⟨_,ρ,?_,a5j (cg:=es.push { key:=.int .i64 i,val:=.bool true,born:=cl }) (eL:=cl+1) r hb bV he (a5q.2 ⟨?_,?_,?_,?_,?_⟩),Moves.same _ _ _⟩
  ·simp only[Instr.mapUpdate,Sem.run_bind,a07 ok w h1,Result.andThen_ok,getObj,Sem.run,he,bX,g2,a2t _ he]
  ·rw[e9h,e6r];refine(List.perm_append_comm.trans ?_).trans (hp.map _).symm;simpa using s1
  ·intro v hv;rw[e9h,e6r]at hv;rcases e7h.1 hv with h|h
   ·exact s2 v h
   ·simpa using h
  ·rw[hp.nodup_iff,e8t];exact⟨g1,s3⟩
  ·rw[e9h,e6r,List.nodup_append];refine⟨s4,by simp,?_⟩;intro a ha b' aR;have:=s5 a ha;simp only[e4r,e5j,e6z]at aR;omega
  ·intro a ha;rw[e9h,e6r]at ha;rcases e7h.1 ha with h|h
   ·have:=s5 a h;omega
   ·simp only[e4r,e5j,e6z]at h;omega
/-! ### delete -/
theorem a97{α:Type}:∀{l:List α} {j:Nat} {e:α},l[j]?=some e→(e::l.eraseIdx j).Perm l
 | [],j,e,h=>by simp at h
 |a::l,0,e,h=>by simp at h;subst h;exact List.Perm.refl _
 |a::l,j+1,e,h=>by have ih:=a97 (l:=l) (j:=j) (e:=e) (by simpa using h);simp only[List.eraseIdx_cons_succ];exact(List.Perm.swap ..).trans (ih.cons a)
def c4s(E:Env)(h:FHeap)(t:TypeId)(m k:AV):Option Eff:=match m,k with
 |.map b,.int .i64 i=>match h b with
  |some (.uset ks)=>bif b5o E t then some (.set b (.uset (ks.filter λy=>!decide (y=i))))else none
  |_=>none
 |_,_=>none
theorem d3b(ok:EnvOk E)(r:HRel E.G I K ρ h w){t qp:TypeId}{m k:AV}{c ck:Value}{e:Eff}(ty:TypeId)(hu:c4s E h t m k=some e)(hm:VRel I w ρ m c)(hk:VRel I w ρ k ck) :
 Val E I K ρ h n w (Builtin.delete_ #[t,qp] ty #[c,ck]) (.tuple []) e:=by
 unfold c4s at hu;split at hu
 case h_2=>cases hu
 rename_i b i;split at hu
 case h_2=>cases hu
 rename_i ks hb;rw[cond_eq_ite]at hu;split at hu
 case isFalse=>cases hu
 rename_i ht;cases hu;obtain⟨kt,et,h1,h2,h3,h4⟩:=b1j ht;simp only[VRel]at hm hk;subst hk;obtain⟨pl,bV,rfl⟩:=hm;obtain⟨m',a9,_,_,es,cl,he,hs⟩:=r.live b _ hb;obtain rfl:pl=m':=z9o (bV.symm.trans a9);have bX:=a38 (w:=w) ok (d:=.int .i64) rfl h2 es.isEmpty 9999 (.int .i64 i);have iR:∀(w':World) (ρ':PMap),VRel I w' ρ' (.tuple []) (.tuple #[]):=λw' ρ'=>by simp only[VRel];exact⟨#[],rfl,by simp[VRels]⟩
 obtain⟨s1,s2,s3,s4,s5⟩:=a5q.1 hs;rcases b5u (w:=w) ok h2 hs i with ⟨j,e,g1,g2,g3,g4⟩|⟨g1,g2⟩
 ·have hj:j<es.toList.length:=by simpa using(e7j.1 g1).1
  have iy:(es.eraseIdxIfInBounds j).toList=es.toList.eraseIdx j:=by unfold Array.eraseIdxIfInBounds;rw[dif_pos (by simpa using hj)];simp
  have dv:(e::es.toList.eraseIdx j).Perm es.toList:=a97 (by simpa using g1);have lh:(i::ks.filter λy=>!decide (y=i)).Perm ks:=by
   refine(List.perm_ext_iff_of_nodup ?_ s3).2 λz=>?_
   ·rw[e8t];exact⟨by simp,s3.filter _⟩
   ·simp only[e6v,e9u,e7z,decide_eq_false_iff_not];constructor
    ·rintro(rfl|h)
     ·exact g3
     ·exact h.1
    ·intro hz;by_cases oV:z=i
     ·exact .inl oV
     ·exact .inr ⟨hz,oV⟩
  refine⟨.tuple #[],_,ρ,?_,a5j (cg:=es.eraseIdxIfInBounds j) (eL:=cl) r hb bV he (a5q.2 ⟨?_,?_,?_,?_,?_⟩),iR _ _,Moves.same _ _ _⟩
  ·have a8:(getObj pl.blk).run E.P w = .ok (.map es cl) w:=by simp[getObj,Sem.run,he]
   have aC:=a2t (E:=E) (.map (es.eraseIdxIfInBounds j) cl) he;simp[Builtin.delete_,a07 ok w h1,a8,bX,g4,aC]
  ·rw[iy];have h5:=(dv.map (·.key)).trans (s1.trans (lh.map (Value.int .i64)).symm);simp only[e4r,g2]at h5;exact h5.cons_inv
  ·intro v hv;rw[iy]at hv;exact s2 v ((dv.map (·.val)).subset (by simp only[e4r];exact f02 _ hv))
  ·exact s3.filter _
  ·rw[iy];have:=(dv.map (·.born)).nodup_iff.2 s4;simp only[e4r,e8t]at this;exact this.2
  ·intro v hv;rw[iy]at hv;exact s5 v ((dv.map (·.born)).subset (by simp only[e4r];exact f02 _ hv))
 ·have hf:(ks.filter λy=>!decide (y=i))=ks:=List.filter_eq_self.2 λy hy=>by simp;rintro rfl;exact g1 hy
  rw[hf];refine⟨.tuple #[],_,ρ,?_,a5j (cg:=es) (eL:=cl) r hb bV he hs,iR _ _,Moves.same _ _ _⟩;have a8:(getObj pl.blk).run E.P w = .ok (.map es cl) w:=by simp[getObj,Sem.run,he]
  have aC:=a2t (E:=E) (.map es cl) he;simp[Builtin.delete_,a07 ok w h1,a8,bX,g2,aC]
end
end Go.Ax
/- AxSet2: ranging over a set of numbers. -/
namespace Go.Ax
section
variable {E:Env}{I K:Nat→Prop}{ρ:PMap}{h:FHeap}{n:Nat}{w:World}
def c1r:Option TypeDesc→Bool
 |some (.map _ _)=>true
 |_=>false
theorem b4u{d:Option TypeDesc}(h:c1r d=true):∃kt et,d=some (.map kt et):=by
 unfold c1r at h;split at h
 ·exact⟨_,_,rfl⟩
 ·cases h
def b70(E:Env)(n:Nat)(t:TypeId)(x:AV):Option (AV×Eff):=match x with
 |.iset ks=>bif c1r (E.und t)then some (.ptr n 0 0,.new (.miter ks [] none))else none
 |.nilmap=>bif c1r (E.und t)then some (.ptr n 0 0,.new (.miter [] [] none))else none
 |_=>none
theorem c4n(ok:EnvOk E)(r:HRel E.G I K ρ h w)(hn:h n=none)(hρ:ρ n=none){t:TypeId}{x v:AV}{c:Value}{e:Eff}(ha:b70 E n t x=some (v,e))(hx:VRel I w ρ x c) :
 Val E I K ρ h n w (Instr.range t c) v e:=by
 unfold b70 at ha;split at ha
 ·rename_i ks;rw[cond_eq_ite]at ha;split at ha
  case isFalse=>cases ha
  rename_i hu;cases ha;obtain⟨kt,et,hu⟩:=b4u hu;simp only[VRel]at hx;obtain⟨b,es,cl,rfl,hI,he,hs⟩:=hx;have ak:b<w.heap.size:=(e7j.1 he).1;refine⟨.pointer (some ⟨w.heap.size,0,none⟩),{ w with heap:=w.heap.push (.mapIter (some b) cl #[] cl) },ρ.set n ⟨w.heap.size,0,0,0⟩,?_,?_,?_,Moves.set _ _ _ rfl⟩
  ·simp[Instr.range,a07 ok w hu,getObj,Sem.run,he,newObj]
  ·refine a1y (ob:=.mapIter (some b) cl #[] cl) r hn hρ rfl rfl rfl rfl rfl ?_;refine⟨rfl,.inr ⟨b,es,cl,#[],hI,?_,hs,by simp,[],by simp,by simp,by simp⟩⟩;show(w.heap.push _)[b]?=_;rw[e9x,e5s (by omega)];exact he
  ·simp only[VRel];exact⟨_,by simp[PMap.set];rfl,by simp⟩
 ·rw[cond_eq_ite]at ha;split at ha
  case isFalse=>cases ha
  rename_i hu;cases ha;obtain⟨kt,et,hu⟩:=b4u hu;simp only[VRel]at hx;subst hx;refine⟨.pointer (some ⟨w.heap.size,0,none⟩),{ w with heap:=w.heap.push (.mapIter none 0 #[] 0) },ρ.set n ⟨w.heap.size,0,0,0⟩,?_,?_,?_,Moves.set _ _ _ rfl⟩
  ·simp[Instr.range,a07 ok w hu,newObj,Sem.run]
  ·exact a1y (ob:=.mapIter none 0 #[] 0) r hn hρ rfl rfl rfl rfl rfl ⟨rfl,.inl ⟨rfl,rfl,by simp⟩⟩
  ·simp only[VRel];exact⟨_,by simp[PMap.set];rfl,by simp⟩
 ·cases ha
def b0a(h:FHeap)(it:AV):Option AV:=match it with
 |.ptr b 0 0=>match h b with
  |some (.miter _ b7 _)=>match b7.getLast? with
   |some i=>some (.tuple [.int .i64 i,.bool true])
   |none=>none
  |_=>none
 |_=>none
theorem c4r(r:HRel E.G I K ρ h w){it v:AV}{c:Value}(ha:b0a h it=some v)(hx:VRel I w ρ it c):Val E I K ρ h n w (Instr.entry c) v .none:=by
 unfold b0a at ha;split at ha
 case h_2=>cases ha
 rename_i b;split at ha
 case h_2=>cases ha
 rename_i ks b7 cD hb;split at ha
 case h_2=>cases ha
 rename_i i hi;cases ha;simp only[VRel]at hx;obtain⟨m,hm,rfl⟩:=hx;obtain⟨m',a9,_,_,h0,ho⟩:=r.live b _ hb;obtain rfl:m=m':=z9o (hm.symm.trans a9);rcases ho with ⟨_,h2,_⟩|⟨c,es,cl,seen,hI,he,hs,i7,cg,g1,g2,g3⟩
 ·rw[h2]at hi;cases hi
 ·have hl:(cg.map (·.key)).getLast?=some (.int .i64 i):=by rw[g3,List.getLast?_map,hi];rfl
  rw[List.getLast?_map]at hl;cases bf:cg.getLast? with
  |none=>rw[bf]at hl;cases hl
  |some e=>
   rw[bf]at hl;simp only[e5p,Option.some.injEq]at hl;have lP:=g1 e (List.mem_of_getLast? bf);have bG:seen.back?=some e.born:=by rw[←Array.getLast?_toList,←g2,List.getLast?_map,bf];rfl
   have lM:es.find? (λx=>x.born==e.born)=some e:=by
    rw[←Array.find?_toList];have bz:=hs.2.2.2.1;have:∀l:List MapEntry,(l.map (·.born)).Nodup→e∈l→l.find? (λx=>x.born==e.born)=some e:=by
     intro l
     induction l with
     |nil=>intro _ h;cases h
     |cons a l ih=>
      intro hn hm;simp only[e4r,e8t]at hn;rcases e6v.1 hm with rfl|hm
      ·simp
      ·have az:(a.born==e.born)=false:=by
        rw[e7r];intro h;exact hn.1 (h▸e81 (f:=(·.born)) hm)
       rw[List.find?_cons,az];exact ih hn.2 hm
    exact this _ bz lP
   refine Val.here (c:=.tuple #[.int .i64 i,.bool true]) r ?_ ?_
   ·simp[Instr.entry,h0,getObj,Sem.run,i7,he,bG,lM,hl,hs.2.1 e lP]
   ·simp only[VRel];exact⟨_,rfl,by simp only[VRels];exact⟨_,_,rfl,by simp[VRel],_,_,rfl,by simp[VRel],rfl⟩⟩
theorem c0t(k:Nat)(hk:0<k):∃i d,i<k∧(choose (.mapNext k)).run E.P w = .ok i { w with drawn:=d }:=by
 simp only[choose,Sem.run];by_cases h:(Question.mapNext k).forced=true
 ·rw[e6q h];exact⟨0,w.drawn,hk,rfl⟩
 ·rw[e5s h];exact⟨_,w.drawn+1,Nat.mod_lt _ hk,rfl⟩
theorem c2f{es:List MapEntry}{α:Type}(f:MapEntry→α)(hn:(es.map f).Nodup){a b:MapEntry}(ha:a∈es)(hb:b∈es)(h:f a=f b):a=b:=by
 induction es with
 |nil=>cases ha
 |cons x l ih=>
  simp only[e4r,e8t]at hn;rcases e6v.1 ha with rfl|ha
  ·rcases e6v.1 hb with rfl|hb
   ·rfl
   ·exact absurd (h▸e81 (f:=f) hb) hn.1
  ·rcases e6v.1 hb with rfl|hb
   ·exact absurd (show f b∈l.map f from h▸e81 (f:=f) (by assumption)) hn.1
   ·exact ih hn.2 ha hb
theorem d0z(r:HRel E.G I K ρ h w){b:Nat}{m:Pl}{ks b7:List Int}{cD:Option (Option Int)}(hb:h b=some (.miter ks b7 cD))(hm:ρ b=some m)(ty:TypeId) :
 (∃i,i∈ks∧i∉b7∧∃w',(Instr.next (.pointer (some ⟨m.blk,0,none⟩)) false ty).run E.P w = .ok (.tuple #[.bool true,.int .i64 i,.bool true]) w'∧Stepped E.G I K ρ w I ρ (h.eff n (.set b (.miter ks (b7++[i]) none))) w')∨
  ((∀i∈ks,i∈b7)∧∃w',(Instr.next (.pointer (some ⟨m.blk,0,none⟩)) false ty).run E.P w = .ok (.tuple #[.bool false]) w'∧Stepped E.G I K ρ w I ρ (h.eff n (.set b (.miter ks b7 none))) w'):=by
 obtain⟨m',a9,cK,_,h0,ho⟩:=r.live b _ hb;obtain rfl:m=m':=z9o (hm.symm.trans a9);rcases ho with ⟨h1,h2,h3⟩|⟨c,es,cl,seen,hI,he,hs,i7,cg,g1,g2,g3⟩
 ·subst h1 h2;exact .inr ⟨by simp,w,by simp[Instr.next,getObj,Sem.run,h3],a1n r hb hm rfl (λ_ _=>rfl) rfl rfl rfl ⟨h0,.inl ⟨rfl,rfl,h3⟩⟩⟩
 ·have jc:(getObj m.blk).run E.P w = .ok (.mapIter (some c) cl seen cl) w:=by simp[getObj,Sem.run,i7]
  have jb:(getObj c).run E.P w = .ok (.map es cl) w:=by simp[getObj,Sem.run,he]
  have gF:∀e∈es,e.born<cl:=λe he=>hs.2.2.2.2 e (by simpa using he);have eC:(!seen.isEmpty && !es.isEmpty&&es.all (λe=>decide (e.born≥cl)))=false:=by
   rw[Bool.and_eq_false_iff];by_cases lP:es.isEmpty=true
   ·left;simp[lP]
   ·right;have az:es≠ #[]:=by simpa using lP
    rw[←Bool.not_eq_true,Array.all_eq_true_iff_forall_mem];intro aT;obtain⟨e,fU⟩:=Array.exists_mem_of_ne_empty es az;have:=aT e fU;have:=gF e fU;simp only[e6l]at *;omega
  obtain⟨left,gv⟩:∃left,left=es.filter (λe=>!seen.contains e.born):=⟨_,rfl⟩
  have cG:∀e,e∈left↔e∈es∧e.born∉seen:=by intro e;rw[gv,Array.mem_filter];simp
  have aJ:left.filter (λe=>decide (e.born<cl))=left:=by rw[Array.filter_eq_self];intro e hm;simpa using gF e ((cG e).1 hm).1
  have aO:left.filter (λe=>decide (e.born≥cl)) = #[]:=by rw[Array.filter_eq_empty_iff];intro e hm;have:=gF e ((cG e).1 hm).1;simp;omega
  have iV:∀e∈es,∀i,e.key = .int .i64 i→(e.born∈seen↔i∈b7):=by
   intro e fU i hi;have nK:=hs.2.2.2.1;have io:=hs.keys_nodup;have iy:e∈es.toList:=by simpa using fU
   constructor
   ·intro h;have h1:e.born∈cg.map (·.born):=by rw[g2];simpa using h
    obtain⟨e',dP,h2⟩:=e7t.1 h1;have:=c2f (·.born) nK (g1 e' dP) iy h2;subst this;have h3:=e81 (f:=(·.key)) dP;rw[g3,hi]at h3;obtain⟨j,hj,h4⟩:=e7t.1 h3;rw[b6e h4]at hj;exact hj
   ·intro h;have h1:Value.int .i64 i∈cg.map (·.key):=by rw[g3];exact e81 h
    obtain⟨e',dP,h2⟩:=e7t.1 h1;have:=c2f (·.key) io (g1 e' dP) iy (h2.trans hi.symm);subst this;have h3:=e81 (f:=(·.born)) dP;rw[g2]at h3;simpa using h3
  by_cases hl:left.isEmpty=true
  ·refine .inr ⟨λi hi=>?_,w,?_,a1n r hb hm rfl (λ_ _=>rfl) rfl rfl rfl ⟨h0,.inr ⟨c,es,cl,seen,hI,he,hs,i7,cg,g1,g2,g3⟩⟩⟩
   ·obtain⟨e,fU,hk⟩:=hs.has hi;have fU:e∈es:=by simpa using fU
    refine(iV e fU i hk).1 (Decidable.byContradiction λhn=>?_);have:=(cG e).2 ⟨fU,hn⟩;have h0:left = #[]:=by simpa using hl
    rw[h0]at this;simp at this
   ·have h0:left = #[]:=by simpa using hl
    simp only[Instr.next,Sem.run_bind,jc,Result.andThen_ok,jb,eC,←gv,aJ,aO];simp[h0,choose,Sem.run,Question.forced]
  ·have fE:0<left.size:=by
    rcases Nat.eq_zero_or_pos left.size with h|h
    ·exact absurd (by simpa using Array.eq_empty_of_size_eq_zero h) hl
    ·exact h
   obtain⟨ix,d,q9,rA⟩:=c0t (E:=E) (w:=w) left.size fE;obtain⟨e,fU⟩:∃e,left[ix]?=some e:=⟨_,Array.getElem?_eq_getElem q9⟩
   obtain⟨iz,mE⟩:=(cG e).1 (Array.mem_of_getElem? fU);obtain⟨i,hi,hk⟩:=hs.key (e:=e) (by simpa using iz);have cF:=hs.2.1 e (by simpa using iz);have dz:m.blk<w.heap.size:=(e7j.1 i7).1;have b6:c≠m.blk:=λe=>cK (e▸hI);refine .inl ⟨i,hi,λhv=>mE ((iV e iz i hk).2 hv),{ w with heap:=w.heap.setIfInBounds m.blk (.mapIter (some c) cl (seen.push e.born) cl),drawn:=d },?_,?_⟩
   ·have aC:(setObj m.blk (.mapIter (some c) cl (seen.push e.born) cl)).run E.P { w with drawn:=d } = .ok () { w with heap:=w.heap.setIfInBounds m.blk (.mapIter (some c) cl (seen.push e.born) cl),drawn:=d }:=by
     simp[setObj,Sem.run,i7]
    have mF:left.isEmpty=false:=by simpa using hl
    simp only[Instr.next,Sem.run_bind,jc,Result.andThen_ok,jb,eC,←gv,aJ,aO,mF,e7w,e9z,Array.empty_append,Array.append_empty,Array.size_map,rA,Array.getElem?_map,fU,e5p,aC,Sem.run_pure,hk,cF]
   ·refine a1n r hb hm (by simp) ?_ rfl rfl rfl ⟨h0,.inr ⟨c,es,cl,seen.push e.born,hI,?_,hs,?_,cg++[e],?_,?_,?_⟩⟩
    ·intro x hx;show(w.heap.setIfInBounds _ _)[x]?=_;rw[e7i,e5s (λh=>hx h.symm)]
    ·show(w.heap.setIfInBounds _ _)[c]?=_;rw[e7i,e5s (λh=>b6 h.symm)];exact he
    ·show(w.heap.setIfInBounds _ _)[_]?=_;rw[e7i,e6q rfl,e6q dz]
    ·intro x hx;rcases e7h.1 hx with h|h
     ·exact g1 x h
     ·simp only[e6z]at h;subst h;simpa using iz
    ·rw[e6r,g2,e9h];rfl
    ·rw[e6r,g3,e6r];simp[hk]
end
end Go.Ax
/- AxStr: ranging over a string. -/
namespace Go.Ax
section
variable {E:Env}{I K:Nat→Prop}{ρ:PMap}{h:FHeap}{n:Nat}{w:World}
def c2k(E:Env)(n:Nat)(t:TypeId)(x:AV):Option (AV×Eff):=
 match E.und t,x with
 |some .string,.str s=>some (.ptr n 0 0,.new (.siter s 0))
 |_,_=>none
theorem c91(ok:EnvOk E)(r:HRel E.G I K ρ h w)(hn:h n=none)(hρ:ρ n=none){t:TypeId}{x v:AV}{c:Value}{e:Eff}(ha:c2k E n t x=some (v,e))(hx:VRel I w ρ x c) :
 Val E I K ρ h n w (Instr.range t c) v e:=by
 unfold c2k at ha;split at ha
 case h_2=>cases ha
 rename_i s hu;cases ha;simp only[VRel]at hx;obtain⟨tb,rfl,ht⟩:=hx;refine⟨.pointer (some ⟨w.heap.size,0,none⟩),{ w with heap:=w.heap.push (.stringIter tb 0) },ρ.set n ⟨w.heap.size,0,0,0⟩,?_,?_,?_,Moves.set _ _ _ rfl⟩
 ·simp[Instr.range,a07 ok w hu]
 ·refine a1y (ob:=.stringIter tb 0) r hn hρ rfl rfl rfl rfl rfl ?_;exact⟨rfl,tb,by simp,ht⟩
 ·simp only[VRel];exact⟨_,by simp[PMap.set];rfl,by simp⟩
def b8w(h:FHeap)(it:AV)(gd:Bool):Option (AV×Eff):=
 match it with
 |.ptr b 0 0=>bif gd then match h b with
  |some (.siter s pos)=>bif Nat.blt pos s.length then
   some (.tuple [.bool true,.int .i64 pos,.int .i32 (Utf8.decode ⟨s.toArray⟩ pos).1],.set b (.siter s (pos+(Utf8.decode ⟨s.toArray⟩ pos).2)))
   else some (.tuple [.bool false],.none)
  |_=>none
  else none
 |_=>none
theorem d36(r:HRel E.G I K ρ h w){it v:AV}{b:Bool}{c:Value}{e:Eff}(ty:TypeId)(ha:b8w h it b=some (v,e))(hx:VRel I w ρ it c) :
 Val E I K ρ h n w (Instr.next c b ty) v e:=by
 unfold b8w at ha;split at ha
 case h_2=>cases ha
 rename_i bb;rw[cond_eq_ite]at ha;split at ha
 case isFalse=>cases ha
 rename_i hs;subst hs;split at ha
 case h_2=>cases ha
 rename_i s pos hb;simp only[VRel]at hx;obtain⟨m,hm,rfl⟩:=hx;obtain⟨m',a9,cK,_,h0,tb,he,ht⟩:=r.live bb _ hb;obtain rfl:m=m':=z9o (hm.symm.trans a9);have iT:tb=⟨s.toArray⟩:=by cases tb;simp only[ByteArray.mk.injEq]at ht⊢;apply e9w;simpa using ht
 have bu:tb.size=s.length:=by rw[iT];simp[ByteArray.size]
 have a8:(getObj m.blk).run E.P w = .ok (.stringIter tb pos) w:=by simp[getObj,Sem.run,he]
 rw[cond_eq_ite]at ha;split at ha
 ·rename_i ak;simp only[e6u]at ak;cases ha;have dz:m.blk<w.heap.size:=(e7j.1 he).1;refine⟨.tuple #[.bool true,goInt pos,.int .i32 (Utf8.decode tb pos).1],{ w with heap:=w.heap.setIfInBounds m.blk (.stringIter tb (pos+(Utf8.decode tb pos).2)) },ρ,?_,?_,?_,Moves.same _ _ _⟩
  ·have aC:(setObj m.blk (.stringIter tb (pos+(Utf8.decode tb pos).2))).run E.P w = .ok () { w with heap:=w.heap.setIfInBounds m.blk (.stringIter tb (pos+(Utf8.decode tb pos).2)) }:=by
    simp[setObj,Sem.run,he]
   simp only[Instr.next,h0,Nat.zero_mul,f03,Sem.run_bind,a8,Result.andThen_ok];simp[bu,ak,aC]
  ·refine a1n r hb hm (by simp) ?_ rfl rfl rfl ?_
   ·intro c hc;show(w.heap.setIfInBounds _ _)[c]?=_;rw[e7i,e5s (λh=>hc h.symm)]
   ·refine⟨h0,tb,?_,ht⟩;show(w.heap.setIfInBounds _ _)[_]?=_;rw[e7i,e6q rfl,e6q dz,iT]
  ·simp only[VRel];exact⟨_,rfl,by simp only[VRels];exact⟨_,_,rfl,by simp[VRel],_,_,rfl,by simp[VRel,goInt],_,_,rfl,by simp[VRel,iT],rfl⟩⟩
 ·rename_i ak;cases ha;have ak:¬pos<s.length:=by simpa[e6u]using ak
  refine Val.here (c:=.tuple #[.bool false]) r ?_ ?_
  ·simp only[Instr.next,h0,Nat.zero_mul,f03,Sem.run_bind,a8,Result.andThen_ok];simp[bu,ak]
  ·simp only[VRel];exact⟨_,rfl,by simp only[VRels];exact⟨_,_,rfl,by simp[VRel],rfl⟩⟩
end
end Go.Ax
/- AxAppZ: append of so many zero elements to nil (slices.Grow). -/
namespace Go.Ax
section
variable {E:Env}{I K:Nat→Prop}{ρ:PMap}{h:FHeap}{n:Nat}{w:World}
def a2d(E:Env)(n:Nat)(st xt:TypeId)(s x:AV):Option (AV×Eff):=match s,x with
 |.nilslice,.int _ l=>match E.und st,E.und xt with
  |some (.slice ac),some dx=>bif a26 dx&&decide (0≤l)then match E.zero ac with
   |some z=>bif Nat.blt 0 (E.sz ac)then(match l.toNat with
    |0=>some (.nilslice,.none)
    |m+1=>bif a23 E ac (m+1)then some (.slice n 0 (m+1) none,.new (.row (E.sz ac) (List.replicate (m+1) z)))else none)else none
   |none=>none
   else none
  |_,_=>none
 |_,_=>none
theorem c14{st xt:TypeId}{s x:AV}{r:AV×Eff}(h:a2d E n st xt s x=some r)(n':Nat)(hp:FHeap):a3v E hp n' st xt s x=none:=by
 unfold a2d at h;split at h
 case h_2=>cases h
 split at h
 case h_2=>cases h
 rename_i ac dx hu dB;rw[cond_eq_ite]at h;split at h
 case isFalse=>cases h
 rename_i hc;simp only[c11]at hc;unfold a3v;simp only[hu,dB,hc.1,Bool.true_or,e6m]
theorem c13(ok:EnvOk E)(r:HRel E.G I K ρ h w)(hn:h n=none)(hρ:ρ n=none){st xt:TypeId}{s x v:AV}{e:Eff}{cs cx:Value}(ty:TypeId)
 (ha:a2d E n st xt s x=some (v,e))(hs:VRel I w ρ s cs)(hx:VRel I w ρ x cx):Val E I K ρ h n w (Builtin.append_ #[st,xt] ty #[cs,cx]) v e:=by
 unfold a2d at ha;split at ha
 case h_2=>cases ha
 rename_i k l;split at ha
 case h_2=>cases ha
 rename_i ac dx hu dB;rw[cond_eq_ite]at ha;split at ha
 case isFalse=>cases ha
 rename_i hc;simp only[c11,e6l]at hc;obtain⟨ir,ed⟩:=hc;split at ha
 case h_2=>cases ha
 rename_i z hz;rw[cond_eq_ite]at ha;split at ha
 case isFalse=>cases ha
 rename_i bu;have bu:0<E.sz ac:=by simpa[e6u]using bu
 obtain⟨⟨de,bl⟩,i',z',gz,dG,ii,ig⟩:=ok.zero ac z hz;have ek:∀w',(zeroValue ac).run E.P w' = .ok z' w':=by intro w';simp[zeroValue,typeInfo,gz,dG]
 have c5:z'.cells.toList.length=E.sz ac:=by rw[←ii,VRels.length (ig (λ_=>False) w)]
 obtain⟨i,hi,_,fR⟩:=b12 ok w bl;have ey:∀w',(typeInfo ac).run E.P w' = .ok i w':=by intro w';have:=hi;simp[typeInfo,gz]at this⊢;exact this
 obtain⟨ki,rfl⟩:∃ki,dx = .int ki:=by cases dx<;>simp[a26]at ir;exact⟨_,rfl⟩
 simp only[VRel]at hs hx;subst hs;subst hx;have mA:∀w',(underlying xt).run E.P w' = .ok (.int ki) w':=λw'=>a07 ok w' dB;have o9:∀w',(underlying st).run E.P w' = .ok (.slice ac) w':=λw'=>a07 ok w' hu;have aL:∀w',(sizeOf ac).run E.P w' = .ok (E.sz ac) w':=λw'=>a2m ok w' bl;obtain⟨m0,rfl⟩:∃m0:Nat,l=m0:=⟨l.toNat,by omega⟩
 rw[Int.toNat_natCast]at ha;have ir:∀(q:Nat) w',(asInt (.int k (q:Int))).run E.P w' = .ok (q:Int) w':=λq w'=>rfl;cases m0 with
 |zero=>
  cases ha;refine Val.here (c:=.slice none 0 0) r ?_ (by simp[VRel]);have bZ:IntKind.i64.wrap ((0:Nat):Int)=0:=by rfl
  unfold Builtin.append_;simp only[e83,e7m,e7g,Sem.run_bind,o9,Result.andThen_ok,aL,mA,Sem.run_pure,e8f,ir,bZ];simp[ey]
 |succ m=>
  dsimp only at ha;rw[cond_eq_ite]at ha;split at ha
  case isFalse=>cases ha
  rename_i aW;cases ha;have nu:=aW;simp only[a23,c11,e6l]at aW;have qz:IntKind.i64.wrap ((m+1:Nat):Int)=((m+1:Nat):Int):=a9j (by omega) (by omega);have aY:=a78 (a8x:=m+1) (old:=0) (by omega);have oN:¬(Builtin.nextslicecap (m+1) 0*i.bytes>2^48):=by rw[fR];have:Builtin.nextslicecap (m+1) 0*E.bytes ac≤(2*(m+1)+192)*E.bytes ac:=e8g _ aY;rw[Nat.mul_comm (2*(m+1)+192)]at this;omega
  have qU:(m+1)*E.bytes ac≤281474976710656:=by have:E.bytes ac*(m+1)≤E.bytes ac*(2*(m+1)+192):=Nat.mul_le_mul_left _ (by omega);rw[Nat.mul_comm];omega
  have oM:¬(((m+1:Nat):Int)*(i.bytes:Int)>2^48):=by
   rw[fR];have:((m+1:Nat):Int)*(E.bytes ac:Int)=(((m+1)*E.bytes ac:Nat):Int):=by simp
   rw[this];omega
  have nJ:¬(((m+1:Nat):Int)<0):=by omega
  have ip:¬(((m+1:Nat):Int)>IntKind.i64.max):=by simp only[IntKind.max,IntKind.signed,IntKind.bits];simp;omega
  have bf:¬(m+1≤0):=by omega
  have qV:¬((m+1)*E.sz ac=0):=Nat.mul_ne_zero (by omega) (by omega);generalize hcap2:m+1+(w.tape w.drawn (.appendCap (m+1) 0 ac))%(2^63-(m+1))=aX;have aJ:∀w',(Builtin.firstCells (E.sz ac) 0 (.slice none 0 0)).run E.P w' = .ok #[] w':=λw'=>rfl;have ae:(Builtin.append_ #[st,xt] ty #[.slice none 0 0,.int k ((m+1:Nat):Int)]).run E.P w =
   .ok (.slice (some ⟨w.heap.size,0,none⟩) (m+1) aX) { w with drawn:=w.drawn+1,heap:=w.heap.push (.cells (Builtin.zeroCells z'.cells (m+1)++Builtin.zeroCells z'.cells (aX-(m+1))) ac) }:=by
   unfold Builtin.append_;simp only[e83,e7m,e7g,Sem.run_bind,o9,Result.andThen_ok,aL,mA,Sem.run_pure,e8f,ir,qz,nJ,e9z,ey,oM];have qE:((m+1:Nat):Int).toNat=m+1:=rfl;simp only[qE,e7l,bf,e9z,Sem.run_bind,ey,Result.andThen_ok,ip,false_and,oN,run_choose,run_askRoom,Question.forced,Question.cut,aJ,e9t,e7w,qV,ek,a3f,Sem.run_pure];rw[hcap2];simp
  have jh:m+1≤aX:=by omega
  have mq:∀q:Nat,(Builtin.zeroCells z'.cells q).size=q*E.sz ac:=by
   intro q;rw[←e6t,a47]
   induction q with
   |zero=>simp
   |succ q ih=>rw[e8s,e80,e6k,ih,c5,f0a,Nat.add_comm]
  generalize bp:Builtin.zeroCells z'.cells (m+1)++Builtin.zeroCells z'.cells (aX-(m+1))=cells at ae;have gE:cells.size=aX*E.sz ac:=by
   subst bp;rw[Array.size_append,mq,mq,←e8q]
   congr 1;omega
  have oZ:∀c,I c→({ w with drawn:=w.drawn+1,heap:=w.heap.push (.cells cells ac) }:World).heap[c]?=w.heap[c]?:=by intro c hc;have:=r.imm c hc;show(w.heap.push _)[c]?=_;rw[e9x,e5s (by omega)]
  have eu:({ w with drawn:=w.drawn+1,heap:=w.heap.push (.cells cells ac) }:World).heap[w.heap.size]?=some (.cells cells ac (0,0)):=by show(w.heap.push _)[_]?=_;simp
  have aC:=PMap.set_old (m:=⟨w.heap.size,0,E.sz ac,cells.size⟩) hρ;have dH:∀x∈List.replicate (m+1) z,x.length=E.sz ac:=λx hx=>by rw[e7q hx];exact ii
  have ho:ORel E.G I { w with drawn:=w.drawn+1,heap:=w.heap.push (.cells cells ac) } (ρ.set n ⟨w.heap.size,0,E.sz ac,cells.size⟩) ⟨w.heap.size,0,E.sz ac,cells.size⟩ (.row (E.sz ac) (List.replicate (m+1) z)):=by
   refine⟨rfl,bu,⟨cells,ac,eu,rfl,?_⟩,?_⟩
   ·show 0+(List.replicate (m+1) z).length*E.sz ac≤cells.size;rw[List.length_replicate,gE,e7l];exact e8g _ jh
   ·rw[VRows.iff];refine⟨dH,?_⟩;refine VAt.of_cells (cs:=(Builtin.zeroCells z'.cells (m+1)).toList) (CellsAt.of_heap eu (λj v hj=>?_)) ?_
    ·subst bp;have i6:=(e5k.1 hj).1;simp only[e6t]at i6;rw[e7l,Array.getElem?_append_left i6,←e8r];exact hj
    ·rw[a47];exact VRels.flatten_replicate (VRels.noRef_any (ig I _)) _
  refine⟨_,_,ρ.set n ⟨w.heap.size,0,E.sz ac,cells.size⟩,ae,?_,?_,Moves.set _ _ _ rfl⟩
  ·exact a1y (ob:=.cells cells ac) r hn hρ rfl rfl rfl rfl rfl ho
  ·simp only[VRel];refine⟨_,aX,rfl,jh,(λq hq=>by cases hq),.inr ⟨_,by simp[PMap.set];rfl,by simp,?_⟩⟩;show 0+(0+aX)*E.sz ac≤cells.size;rw[gE,e7l,e7l];exact e6o _
end
end Go.Ax
/- AxAop: one operation that calls no function of the program, on abstract values; that the model does just that. -/
namespace Go.Ax
set_option maxHeartbeats 200000000
section
variable {E:Env}{I K:Nat→Prop}{ρ:PMap}{h:FHeap}{n:Nat}{w:World}
def b3v(t:Bool)(a b:AV):AV:=
 match a,b with
 |.bool x,.bool y=>.bool (bif t then x else y)
 |a,b=>bif t then a else b
theorem d34{t:Bool}{a b:AV}{ca cb:Value}(ha:VRel I w ρ a ca)(hb:VRel I w ρ b cb):VRel I w ρ (b3v t a b) (if t then ca else cb):=by
 unfold b3v;split
 ·simp only[VRel]at ha hb;subst ha hb;cases t<;>simp[VRel]
 ·cases t<;>simpa
def a4q:List (List AV)→Option (List UInt8)
 | []=>some []
 | [.int .u8 n]::r=>match a4q r with|some l=>some (UInt8.ofNat n.toNat::l)|none=>none
 |_::_=>none
def a62(E:Env)(h:FHeap)(gQ dst:TypeId)(x:AV):Option AV:=
 match E.und gQ,E.und dst,x with
 |some (.slice _),some .string,.str _=>none
 |some (.slice e),some .string,x=>match E.und e with
  |some (.int .u8)=>match a1o h 1 x with
   |some aa=>match a4q aa with
    |some l=>some (.str l)
    |none=>none
   |none=>none
  |_=>none
 |_,_,x=>d3e E gQ dst x
theorem b5h:∀{aa:List (List AV)} {l:List UInt8} {cv:List Value} (aH:ByteArray),a4q aa=some l→VRels I w ρ aa.flatten cv→
 ∃s:ByteArray,(∀m9:String,(forIn cv aH (λc s=>match c with
  |.int .u8 n=>pure (ForInStep.yield (s.push (UInt8.ofNat n.toNat)))
  |_=>do
   stuck m9
   pure (ForInStep.yield s):Value→ByteArray→Sem (ForInStep ByteArray))).run E.P w = .ok s w)∧s.data.toList=aH.data.toList++l
 | [],l,cv,aH,ha,hv=>by simp only[a4q,Option.some.injEq]at ha;subst ha;simp only[List.flatten_nil,VRels]at hv;subst hv;exact⟨aH,λ_=>by simp,by simp⟩
 |r::aa,l,cv,aH,ha,hv=>by
  unfold a4q at ha;split at ha
  ·rename_i h;cases h
  ·rename_i n r' he;cases he;split at ha
   case h_2=>cases ha
   rename_i l' hl;cases ha;simp only[e80,e7p,e5m,VRels]at hv;obtain⟨c,cs,rfl,hc,cM⟩:=hv;simp only[VRel]at hc;subst hc;obtain⟨s,h1,h2⟩:=b5h (aH.push (UInt8.ofNat n.toNat)) hl cM;refine⟨s,λm9=>?_,?_⟩
   ·rw[List.forIn_cons];simp only[Sem.run_bind,Sem.run_pure,Result.andThen_ok];exact h1 m9
   ·rw[h2];simp
  ·cases ha
theorem c9f(ok:EnvOk E)(r:HRel E.G I K ρ h w){gQ dst:TypeId}{x v:AV}{c:Value}(hv:a62 E h gQ dst x=some v)(hx:VRel I w ρ x c) :
 ∃d,(convert gQ dst c).run E.P w = .ok d w∧VRel I w ρ v d:=by
 unfold a62 at hv;split at hv
 ·cases hv
 ·rename_i y e hs hd gp;split at hv
  case h_2=>cases hv
  rename_i he;split at hv
  case h_2=>cases hv
  rename_i aa hr;split at hv
  case h_2=>cases hv
  rename_i l hl;cases hv;obtain⟨aj,⟨cv,ae,bo⟩,hk⟩:=a44 r hr hx;obtain⟨s,h1,h2⟩:=b5h (E:=E) (w:=w) .empty hl bo;have eo:=ae w ⟨rfl,rfl,rfl,rfl⟩;refine⟨.string s,?_,by simp only[VRel];exact⟨s,rfl,by simpa using h2⟩⟩;unfold a1o at hr;split at hr
  ·simp only[VRel]at hx;subst hx;cases hr;simp only[a4q,Option.some.injEq]at hl;subst hl;have:s = .empty:=by
    cases s;simp only[e4t]at h2;have:=Array.toList_inj.1 h2;subst this;rfl
   subst this;simp[convert,a07 ok w hs,a07 ok w hd,a07 ok w he,Conv.bytesToString]
  ·simp only[VRel]at hx;obtain⟨a,cc,k,rfl,_⟩:=hx;rw[cond_eq_ite]at hr;split at hr
   case isFalse=>cases hr
   cases hr;simp only[Builtin.firstCells,Nat.mul_one]at eo;simp only[convert,Sem.run_bind,a07 ok w hs,a07 ok w hd,a07 ok w he,Result.andThen_ok,Conv.bytesToString,eo];rw[←Array.forIn_toList];exact(congrArg (λr=>r.andThen (λa w'=>(pure (Value.string a):Sem Value).run E.P w')) (h1 _)).trans rfl
  ·simp only[VRel]at hx;obtain⟨a,cc,rfl,_⟩:=hx;simp only[Builtin.lenOf,Sem.run_pure,Result.ok.injEq,and_true]at aj;rw[←aj]at eo;simp only[Builtin.firstCells,Nat.mul_one]at eo;simp only[convert,Sem.run_bind,a07 ok w hs,a07 ok w hd,a07 ok w he,Result.andThen_ok,Conv.bytesToString,eo];rw[←Array.forIn_toList];exact(congrArg (λr=>r.andThen (λa w'=>(pure (Value.string a):Sem Value).run E.P w')) (h1 _)).trans rfl
  ·exact absurd rfl (gp _)
  ·cases hr
 ·exact d3d ok hv hx
def b25(E:Env)(t:TypeId):AObj:=bif b5o E t then .uset []else .map [] [] [] 0
theorem b7y(r:HRel E.G I K ρ h w)(hn:h n=none)(hρ:ρ n=none){t:TypeId}{s:Sem Value}
 (hs:s.run E.P w = .ok (.map (some w.heap.size)) { w with heap:=w.heap.push (.map #[] 0) }):Val E I K ρ h n w s (.map n) (.new (b25 E t)):=by
 unfold b25;cases b5o E t with
 |false=>exact d7l r hn hρ hs
 |true=>refine⟨_,_,ρ.set n ⟨w.heap.size,0,0,0⟩,hs,?_,by simp only[VRel];exact⟨_,by simp[PMap.set];rfl,rfl⟩,Moves.set _ _ _ rfl⟩;refine a1y (ob:=.map #[] 0) r hn hρ rfl rfl rfl rfl rfl ?_;exact⟨#[],0,by simp,by simp,by simp,by simp,by simp,by simp⟩
def d3h(E:Env)(n:Nat)(h:FHeap)(b:Builtin)(ts:List TypeId)(args:List AV):Option (AV×Eff):=
 match b,ts,args with
 |.len,[t],[x]=>(b3w E h t x).map (·,.none)
 |.cap,[t],[x]=>(d7t E t x).map (·,.none)
 |.append,[st,xt],[s,x]=>oor (a3v E h n st xt s x) (a2d E n st xt s x)
 |.copy,[dt,_],[d,x]=>c4t E h dt d x
 |.clear,[t],[x]=>b5g E h t x
 |.delete,[t,_],[m,k]=>(c4s E h t m k).map (.tuple [],·)
 |.min,_,x::xs=>(d4l x xs).map (·,.none)
 |.max,_,x::xs=>(d38 x xs).map (·,.none)
 |_,_,_=>none
def aop(E:Env)(n:Nat)(h:FHeap)(op:Op)(v:Operand→AV):Option (AV×Eff):=
 match op with
 |.move x=>some (v x,.none)
 |.assign x=>some (v x,.none)
 |.pick c a b=>match v c with
  |.bool t=>some (b3v t (v a) (v b),.none)
  |_=>none
 |.alloc t=>d7k E n t
 |.box _ x=>d7w n (v x)
 |.build t ps=>(b5j E t (ps.toList.map λp=>(p.1,v p.2))).map (·,.none)
 |.buildSlice t len ps=>a2r E n t len (ps.toList.map λp=>(p.1,v p.2))
 |.load t a=>(a5h E h t (v a)).map (·,.none)
 |.store t a x=>(a6u E h t (v a) (v x)).map (.tuple [],·)
 |.nilCheck x=>match v x with
  |.ptr b i o=>some (.ptr b i o,.none)
  |.iptr cs=>some (.iptr cs,.none)
  |.func (.func f) fs cs=>some (.func (.func f) fs cs,.none)
  |_=>none
 |.binOp op t x y _=>(b0b E op t (v x) (v y) (a3t x||a3t y)).map (·,.none)
 |.unOp op _ x=>(aun op (v x)).map (·,.none)
 |.convert s d x=>(a62 E h s d (v x)).map (·,.none)
 |.makeInterface t x=>match E.und t with
  |some (.interface _)=>none
  |some _=>some (.iface t (v x),.none)
  |none=>none
 |.makeFunc fn first cap=>some (.func fn (first.toList.map v) (cap.toList.map v),.none)
 |.makeMap t r=>match r with
  |none=>some (.map n,.new (b25 E t))
  |some x=>match E.und t,v x with
   |some (.map _ _),.int _ _=>some (.map n,.new (b25 E t))
   |_,_=>none
 |.makeSlice t l c=>a3j E n t (v l) (v c)
 |.slice t x lo hi mx=>(a4p E h t (v x) (lo.map v) (hi.map v) (mx.map v)).map (·,.none)
 |.fieldAddr s x f=>(a4z E s (v x) f).map (·,.none)
 |.field t x f=>(b5f E t (v x) f).map (·,.none)
 |.indexAddr t x ix=>(a0p E h t (v x) (v ix)).map (·,.none)
 |.index t x ix=>(b5e E t (v x) (v ix)).map (·,.none)
 |.lookup t x k ok=>(oor (a5f E h t (v x) (v k) ok) (b3g E h t (v x) (v k) ok)).map (·,.none)
 |.mapUpdate t m k x=>(oor (a1m E h t (v m) (v k) (v x)) (b3u E h t (v m) (v k) (v x))).map (.tuple [],·)
 |.insert t m k x=>(oor (a1m E h t (v m) (v k) (v x)) (b3u E h t (v m) (v k) (v x))).map (.tuple [],·)
 |.mapEntry t m k=>a9e E h t (v m) (v k)
 |.entryStore _ m s x=>(a45 h (v m) (v s) (v x)).map (.tuple [],·)
 |.extract t i=>match v t with
  |.tuple vs=>match vs[i]? with
   |some x=>some (x,.none)
   |none=>none
  |_=>none
 |.range t x=>oor (c2k E n t (v x)) (b70 E n t (v x))
 |.next it b=>b8w h (v it) b
 |.entry it=>(b0a h (v it)).map (·,.none)
 |.call { callee:=.builtin b,args,argTypes }=>d3h E n h b argTypes.toList (args.toList.map v)
 |_=>none
def OpOk(E:Env)(I K:Nat→Prop)(ρ:PMap)(h:FHeap)(n:Nat)(a:Act)(w:World)(o:Oper)(v:AV)(e:Eff):Prop:=∃x w' c ρ',(execOp a.eval o).run E.P w = .ok x w'∧(x = .value c∨(x = .skip∧c=undef))∧Stepped E.G I K ρ w I ρ' (h.eff n e) w'∧VRel I w' ρ' v c∧Moves ρ ρ' n e
theorem OpOk.val{a:Act}{o:Oper}{v:AV}{e:Eff}{s:Sem Value}(hs:execOp a.eval o=(do pure (.value (←s))))(hv:Val E I K ρ h n w s v e):OpOk E I K ρ h n a w o v e:=by obtain⟨c,w',ρ',h1,h2,h3,h4⟩:=hv;exact⟨.value c,w',c,ρ',by rw[hs];simp[h1],.inl rfl,h2,h3,h4⟩
theorem OpOk.done{a:Act}{o:Oper}{e:Eff}{s:Sem Unit}(hs:execOp a.eval o=(do s;pure .skip))(hv:e1y E I K ρ h n w s e):OpOk E I K ρ h n a w o (.tuple []) e:=by obtain⟨w',ρ',h1,h2,h4⟩:=hv;exact⟨.skip,w',undef,ρ',by rw[hs];simp[h1],.inr ⟨rfl,rfl⟩,h2,by simp only[VRel,undef];exact⟨#[],rfl,by simp[VRels]⟩,h4⟩
theorem a05{α β:Type}{x:Option α}{f:α→β}{y:β}(h:x.map f=some y):∃a,x=some a∧f a=y:=by
 cases x with
 |none=>cases h
 |some a=>simp only[e5p,Option.some.injEq]at h;exact⟨a,rfl,h⟩
theorem a4b{a:Act}{v:Operand→AV}(hv:∀x,VRel I w ρ (v x) (a.eval x)):∀l:List Operand,VRels I w ρ (l.map v) (l.map a.eval)
 | []=>by simp[VRels]
 |x::l=>by simp only[e4r,VRels];exact⟨_,_,rfl,hv x,a4b hv l⟩
theorem b1y{a:Act}{v:Operand→AV}(hv:∀x,VRel I w ρ (v x) (a.eval x)):∀l:List (Nat×Operand),a4t I w ρ (l.map λp=>(p.1,v p.2)) (l.map λp=>(p.1,a.eval p.2))
 | []=>by simp[a4t]
 |x::l=>by simp only[e4r,a4t];exact⟨_,_,rfl,hv x.2,b1y hv l⟩
theorem a9t{a:Act}{v:Operand→AV}(hv:∀x,VRel I w ρ (v x) (a.eval x))(x:Option Operand):a2s I w ρ (x.map v) (x.map a.eval):=by
 cases x with
 |none=>simp[a2s]
 |some x=>simp only[e5p,a2s];exact⟨_,rfl,hv x⟩
theorem d7x(ok:EnvOk E)(r:HRel E.G I K ρ h w)(hn:h n=none)(hρ:ρ n=none){b:Builtin}{ts:List TypeId}{args:List AV}{am:List Value}{v:AV}{e:Eff}(ty:TypeId)(mZ:Array Bool)
 (ha:d3h E n h b ts args=some (v,e))(hv:VRels I w ρ args am):∃s:Sem Value,builtin b ts.toArray ty mZ am.toArray=(do pure (.value (←s)))∧Val E I K ρ h n w s v e:=by
 unfold d3h at ha;split at ha
 ·simp only[VRels]at hv;obtain⟨c,_,rfl,hx,rfl⟩:=hv;obtain⟨a,h1,h2⟩:=a05 ha;cases h2;exact⟨_,rfl,d7m ok r ty h1 hx⟩
 ·simp only[VRels]at hv;obtain⟨c,_,rfl,hx,rfl⟩:=hv;obtain⟨a,h1,h2⟩:=a05 ha;cases h2;exact⟨_,rfl,d7s ok r ty h1 hx⟩
 ·simp only[VRels]at hv;obtain⟨c,_,rfl,hx,c2,_,rfl,hy,rfl⟩:=hv;refine⟨_,rfl,?_⟩;rcases a8f ha with ha|ha
  ·exact c4w ok r hn hρ ty ha hx hy
  ·exact c13 ok r hn hρ ty ha hx hy
 ·simp only[VRels]at hv;obtain⟨c,_,rfl,hx,c2,_,rfl,hy,rfl⟩:=hv;exact⟨_,rfl,d3c ok r ty ha hx hy⟩
 ·simp only[VRels]at hv;obtain⟨c,_,rfl,hx,rfl⟩:=hv;exact⟨_,rfl,c9g ok r ty ha hx⟩
 ·simp only[VRels]at hv;obtain⟨c,_,rfl,hx,c2,_,rfl,hy,rfl⟩:=hv;obtain⟨a,h1,h2⟩:=a05 ha;cases h2;exact⟨_,rfl,d3b ok r ty h1 hx hy⟩
 ·simp only[VRels]at hv;obtain⟨c,cs,rfl,hx,br⟩:=hv;obtain⟨a,h1,h2⟩:=a05 ha;cases h2;obtain⟨d,h3,h4⟩:=c96 (E:=E) (w:=w) h1 hx br;exact⟨_,rfl,Val.here r (by simpa[Builtin.min_]using h3) h4⟩
 ·simp only[VRels]at hv;obtain⟨c,cs,rfl,hx,br⟩:=hv;obtain⟨a,h1,h2⟩:=a05 ha;cases h2;obtain⟨d,h3,h4⟩:=c97 (E:=E) (w:=w) h1 hx br;exact⟨_,rfl,Val.here r (by simpa[Builtin.max_]using h3) h4⟩
 ·cases ha
theorem d4k(ok:EnvOk E)(r:HRel E.G I K ρ h w)(hn:h n=none)(hρ:ρ n=none){a:Act}{o:Oper}{v:Operand→AV}{x:AV}{e:Eff}(ha:aop E n h o.op v=some (x,e))
 (hv:∀x,VRel I w ρ (v x) (a.eval x)):OpOk E I K ρ h n a w o x e:=by
 obtain⟨dst,op,type,pos,after,guard⟩:=o;simp only at ha;unfold aop at ha;split at ha
 ·cases ha;exact⟨_,w,_,ρ,rfl,.inl rfl,Stepped.refl r,hv _,Moves.same _ _ _⟩
 ·cases ha;exact⟨_,w,_,ρ,rfl,.inl rfl,Stepped.refl r,hv _,Moves.same _ _ _⟩
 ·rename_i c p q;split at ha
  case h_2=>cases ha
  rename_i t hc;cases ha;have aQ:=hv c;rw[hc]at aQ;simp only[VRel]at aQ;refine⟨.value (if t then a.eval p else a.eval q),w,_,ρ,?_,.inl rfl,Stepped.refl r,d34 (hv p) (hv q),Moves.same _ _ _⟩;simp[execOp,aQ,asBool]
 ·exact OpOk.val rfl (d7j ok r hn hρ ha _)
 ·exact OpOk.val rfl (d7v r hn hρ ha (hv _))
 ·obtain⟨y,h1,h2⟩:=a05 ha;cases h2;rename_i t ps;have:=c9h (n:=n) ok r h1 (b1y hv ps.toList);refine OpOk.val (s:=Instr.build t (ps.toList.map λp=>(p.1,a.eval p.2)).toArray) ?_ this;show(do pure (Next.value (←Instr.build t (ps.map λ(i,x)=>(i,a.eval x)))))=_
  congr 2
  apply e9w;simp
 ·rename_i t len ps;have:=b3y (n:=n) ok r hn hρ ha (b1y hv ps.toList);refine OpOk.val (s:=Instr.buildSlice t len (ps.toList.map λp=>(p.1,a.eval p.2)).toArray) ?_ this;show(do pure (Next.value (←Instr.buildSlice t len (ps.map λ(i,x)=>(i,a.eval x)))))=_
  congr 2
  apply e9w;simp
 ·obtain⟨y,h1,h2⟩:=a05 ha;cases h2;exact OpOk.val rfl (d39 ok r h1 (hv _))
 ·obtain⟨y,h1,h2⟩:=a05 ha;cases h2;exact OpOk.done rfl (c8y ok r h1 (hv _) (hv _))
 ·rename_i y;have hy:=hv y;split at ha
  ·rename_i b i o hq;cases ha;rw[hq]at hy;have ge:=hy;simp only[VRel]at ge;obtain⟨m,hm,hc⟩:=ge;exact⟨.value (a.eval y),w,_,ρ,by simp[execOp,hc],.inl rfl,Stepped.refl r,hy,Moves.same _ _ _⟩
  ·rename_i cs hq;cases ha;rw[hq]at hy;have ge:=hy;simp only[VRel]at ge;obtain⟨b,off,hc,_⟩:=ge;exact⟨.value (a.eval y),w,_,ρ,by simp[execOp,hc],.inl rfl,Stepped.refl r,hy,Moves.same _ _ _⟩
  ·rename_i f fs cs hq;cases ha;rw[hq]at hy;have ge:=hy;simp only[VRel]at ge;obtain⟨bT,aF,hc,_⟩:=ge;exact⟨.value (a.eval y),w,_,ρ,by simp[execOp,hc],.inl rfl,Stepped.refl r,hy,Moves.same _ _ _⟩
  ·cases ha
 ·obtain⟨y,h1,h2⟩:=a05 ha;cases h2;obtain⟨c,h3,h4⟩:=d7y (E:=E) (w:=w) ok h1 (hv _) (hv _);exact OpOk.val rfl (Val.here r h3 h4)
 ·obtain⟨y,h1,h2⟩:=a05 ha;cases h2;obtain⟨c,h3,h4⟩:=e1m (E:=E) (w:=w) h1 (hv _);exact OpOk.val rfl (Val.here r h3 h4)
 ·obtain⟨y,h1,h2⟩:=a05 ha;cases h2;obtain⟨c,h3,h4⟩:=c9f ok r h1 (hv _);exact OpOk.val rfl (Val.here r h3 h4)
 ·rename_i t y;split at ha
  ·cases ha
  ·rename_i d az hd;cases ha;refine OpOk.val (s:=Instr.makeInterface t (a.eval y)) rfl (Val.here (c:=.iface t (a.eval y)) r ?_ (by simp only[VRel];exact⟨_,rfl,hv y⟩));simp only[Instr.makeInterface,Sem.run_bind,a07 ok w hd,Result.andThen_ok];cases d<;>first|rfl|(exact absurd rfl (az _))
  ·cases ha
 ·rename_i fn first cap
  cases ha;refine OpOk.val (s:=Instr.makeFunc fn (first.map a.eval) (cap.map a.eval)) rfl (Val.here r rfl ?_);simp only[VRel];exact⟨_,_,rfl,by rw[e8w];exact a4b hv _,by rw[e8w];exact a4b hv _⟩
 ·rename_i t rr;split at ha
  ·cases ha;exact OpOk.val (s:=Instr.makeMap t none) rfl (b7y r hn hρ (by simp[Instr.makeMap]))
  ·rename_i y;split at ha
   case h_2=>cases ha
   rename_i hd hy;cases ha;have nb:=hv y;rw[hy]at nb;simp only[VRel]at nb;refine OpOk.val (s:=Instr.makeMap t (some (a.eval y))) rfl (b7y r hn hρ ?_);simp[Instr.makeMap,a07 ok w hd,nb,asInt,asIntOf]
 ·exact OpOk.val rfl (b71 ok r hn hρ ha (hv _) (hv _))
 ·obtain⟨y,h1,h2⟩:=a05 ha;cases h2;exact OpOk.val rfl (c8z ok r h1 (hv _) (a9t hv _) (a9t hv _) (a9t hv _))
 ·obtain⟨y,h1,h2⟩:=a05 ha;cases h2;exact OpOk.val rfl (b74 ok r h1 (hv _))
 ·obtain⟨y,h1,h2⟩:=a05 ha;cases h2;exact OpOk.val rfl (c9c ok r h1 (hv _))
 ·obtain⟨y,h1,h2⟩:=a05 ha;cases h2;exact OpOk.val rfl (b73 ok r h1 (hv _) (hv _))
 ·obtain⟨y,h1,h2⟩:=a05 ha;cases h2;exact OpOk.val rfl (c9b ok r h1 (hv _) (hv _))
 ·obtain⟨y,h1,h2⟩:=a05 ha;cases h2;rcases a8f h1 with h1|h1
  ·exact OpOk.val rfl (c4o ok r h1 (hv _) (hv _))
  ·exact OpOk.val rfl (c99 ok r h1 (hv _) (hv _))
 ·obtain⟨y,h1,h2⟩:=a05 ha;cases h2;rcases a8f h1 with h1|h1
  ·exact OpOk.done rfl (a9d ok r h1 (hv _) (hv _) (hv _))
  ·exact OpOk.done rfl (c2h ok r h1 (hv _) (hv _) (hv _))
 ·obtain⟨y,h1,h2⟩:=a05 ha;cases h2;rcases a8f h1 with h1|h1
  ·exact OpOk.done rfl (a9d ok r h1 (hv _) (hv _) (hv _))
  ·exact OpOk.done rfl (c2h ok r h1 (hv _) (hv _) (hv _))
 ·exact OpOk.val rfl (b8y ok r ha (hv _) (hv _))
 ·obtain⟨y,h1,h2⟩:=a05 ha;cases h2;exact OpOk.done rfl (b3x r h1 (hv _) (hv _) (hv _))
 ·rename_i t i;split at ha
  case h_2=>cases ha
  rename_i vs ht;split at ha
  case h_2=>cases ha
  rename_i y hy;cases ha;have ke:=hv t;rw[ht]at ke;simp only[VRel]at ke;obtain⟨cs,hc,cM⟩:=ke;obtain⟨c,cw,hr⟩:=VRels.get i cM hy;refine OpOk.val (s:=Instr.extract (a.eval t) i) rfl (Val.here (c:=c) r ?_ hr);have:cs[i]?=some c:=by simpa using cw
  simp[Instr.extract,hc,this]
 ·rcases a8f ha with ha|ha
  ·exact OpOk.val rfl (c91 ok r hn hρ ha (hv _))
  ·exact OpOk.val rfl (c4n ok r hn hρ ha (hv _))
 ·exact OpOk.val rfl (d36 r type ha (hv _))
 ·obtain⟨y,h1,h2⟩:=a05 ha;cases h2;exact OpOk.val rfl (c4r r h1 (hv _))
 ·rename_i b args ts;obtain⟨s,hs,cF⟩:=d7x (E:=E) ok r hn hρ type (args.map λ|.const _=>true|_=>false) ha (a4b hv args.toList);refine OpOk.val ?_ cF;have ht:ts.toList.toArray=ts:=by apply e9w;simp
  rw[ht]at hs;rw[←hs];have hm:(args.toList.map a.eval).toArray=args.map a.eval:=by apply e9w;simp
  rw[hm];rfl
 ·cases ha
end
end Go.Ax
/- AxRen: block numbers that are renamed; what is frozen. -/
namespace Go.Ax
section
variable {G:GTab (List AV)}{I K:Nat→Prop}{ρ ρ':PMap}{h h':FHeap}{w:World}
theorem HRel.rename(r:HRel G I K ρ h w){π:Nat→Option Nat}(hπ:∀b b' m,π b=some b'→ρ b=some m→ρ' b'=some m)
 (hh:∀b' o',h' b'=some o'→∃b o,h b=some o∧π b=some b'∧o'=a0d π o)(jT:∀b' m,ρ' b'=some m→m.blk<w.heap.size):HRel G I K ρ' h' w:={
 live b' o' aR:=by obtain⟨b,o,hb,hp,rfl⟩:=hh b' o' aR;obtain⟨m,h1,h2,h3,h4⟩:=r.live b o hb;exact⟨m,hπ b b' m hp h1,h2,h3,ORel.ren hπ o h4⟩
 inj b1 b2 m1 m2 h1 h2 dW fG he:=by obtain⟨o1,dk⟩:=e4v.1 h1;obtain⟨o2,qS⟩:=e4v.1 h2;obtain⟨c1,q1,fV,eb,_⟩:=hh b1 o1 dk;obtain⟨c2,q2,fJ,dw,_⟩:=hh b2 o2 qS;obtain⟨n1,bF,_⟩:=r.live c1 q1 fV;obtain⟨n2,gX,_⟩:=r.live c2 q2 fJ;have e1:=hπ c1 b1 n1 eb bF;have e2:=hπ c2 b2 n2 dw gX;rw[dW]at e1;rw[fG]at e2;cases e1;cases e2;have:=r.inj c1 c2 _ _ (by simp[fV]) (by simp[fJ]) bF gX he;subst this;rw[eb]at dw;exact z9o dw
 dom:=jT
 imm:=r.imm
 kept:=r.kept
 apart:=r.apart
 glob:=r.glob}
theorem Ext.keepLess{K':Nat→Prop}{w w':World}(e:Ext I K w w')(hK:∀c,K' c→K c):Ext I K' w w':=⟨e.os,e.tape,e.output,e.size,λc hc=>e.keep c (hc.imp id (hK c))⟩
/-! ### freezing -/
def d4c(m:Nat)(top:Bool)(d:AV→Option AV)(b:Nat)(v:AV):Option AV:=bif Nat.blt b m then(bif top then some v else none)else d v
mutual
def a30(m:Nat)(top:Bool)(d:AV→Option AV):AV→Option AV
 |.ptr b i o=>d4c m top d b (.ptr b i o)
 |.slice b off len cap=>d4c m top d b (.slice b off len cap)
 |.map b=>d4c m top d b (.map b)
 |.yfn b=>bif top&&Nat.blt b m then some (.yfn b)else none
 |.func fn fs cs=>match a4l m top d fs,a4l m top d cs with
  |some fs,some cs=>some (.func fn fs cs)
  |_,_=>none
 |.iface t x=>match a30 m top d x with
  |some x=>some (.iface t x)
  |none=>none
 |.agg cs=>match a4l m top d cs with
  |some cs=>some (.agg cs)
  |none=>none
 |.tuple cs=>match a4l m top d cs with
  |some cs=>some (.tuple cs)
  |none=>none
 |.iptr cs=>some (.iptr cs)
 |.islice aa cap=>some (.islice aa cap)
 |.imap ks vs bs bd=>some (.imap ks vs bs bd)
 |.iset ks=>some (.iset ks)
 |.junk=>some .junk
 |.bool b=>some (.bool b)
 |.int k n=>some (.int k n)
 |.str s=>some (.str s)
 |.nilptr=>some .nilptr
 |.nilslice=>some .nilslice
 |.nilmap=>some .nilmap
 |.nilfunc=>some .nilfunc
 |.nilifc=>some .nilifc
def a4l(m:Nat)(top:Bool)(d:AV→Option AV):List AV→Option (List AV)
 | []=>some []
 |v::vs=>match a30 m top d v,a4l m top d vs with
  |some v,some vs=>some (v::vs)
  |_,_=>none
end
def a8i(m:Nat)(d:AV→Option AV):List (List AV)→Option (List (List AV))
 | []=>some []
 |r::rs=>match a4l m false d r,a8i m d rs with
  |some r,some rs=>some (r::rs)
  |_,_=>none
def a3w(h:FHeap)(m:Nat):Nat→AV→Option AV
 |0,_=>none
 |n+1,.ptr b i o=>match h b with
  |some (.row _ aa)=>match aa[i]? with
   |some r=>match a4l m false (a3w h m n) (r.drop o)with
    |some cs=>some (.iptr cs)
    |none=>none
   |none=>none
  |_=>none
 |n+1,.slice b off len cap=>match h b with
  |some (.row _ aa)=>bif Nat.ble (off+len) aa.length then
   match a8i m (a3w h m n) ((aa.drop off).take len)with
   |some rs=>some (.islice rs cap)
   |none=>none
   else none
  |_=>none
 |n+1,.map b=>match h b with
  |some (.map ks vs bs cl)=>match a4l m false (a3w h m n) ks,a4l m false (a3w h m n) vs with
   |some ks,some vs=>some (.imap ks vs bs cl)
   |_,_=>none
  |some (.uset ks)=>some (.iset ks)
  |_=>none
 |_+1,_=>none
def a31(I:Nat→Prop)(ρ:PMap)(h:FHeap)(m:Nat):Nat→Prop:=λc=>I c∨∃b o p,m≤b∧h b=some o∧ρ b=some p∧p.blk=c
def c15(I':Nat→Prop)(I:Nat→Prop)(w:World)(ρ:PMap)(m:Nat)(d:AV→Option AV):Prop:=∀b v v' c,(v = .map b∨(∃i o,v = .ptr b i o)∨∃off len cap,v = .slice b off len cap)→m≤b→d v=some v'→VRel I w ρ v c→VRel I' w noP v' c
def PMap.below(ρ:PMap)(m:Nat)(top:Bool):PMap:=λb=>if top=true∧b<m then ρ b else none
theorem a6e{I I':Nat→Prop}{w:World}{ρ:PMap}(_:∀c,I c→I' c){v:AV}{c:Value}(h:VRel I' w noP v c):VRel I' w ρ v c:=VRel.mono (λ_ h=>h) (λ_ _=>rfl) v (λ_ _ h=>by simp[noP]at h) h
variable {I':Nat→Prop}{m:Nat}{top:Bool}{d:AV→Option AV}
mutual
theorem a9z(hI:∀c,I c→I' c)(hd:c15 I' I w ρ m d):∀(v:AV) {v':AV} {c:Value},a30 m top d v=some v'→VRel I w ρ v c→VRel I' w (ρ.below m top) v' c
 |.ptr b i o,v',c,hf,hv=>by
  simp only[a30,d4c]at hf;rw[cond_eq_ite]at hf;split at hf
  ·rename_i hb;rw[cond_eq_ite]at hf;split at hf
   case isFalse=>cases hf
   rename_i ht;cases hf;simp only[VRel]at hv⊢;obtain⟨p,hp,rfl⟩:=hv;exact⟨p,by simp only[PMap.below];rw[e6q ⟨ht,by simpa[e6u]using hb⟩];exact hp,rfl⟩
  ·rename_i hb;exact a6e (I:=I) hI (hd b _ _ _ (.inr (.inl ⟨i,o,rfl⟩)) (by simpa[e6u]using hb) hf hv)
 |.slice b off len cap,v',c,hf,hv=>by
  simp only[a30,d4c]at hf;rw[cond_eq_ite]at hf;split at hf
  ·rename_i hb;rw[cond_eq_ite]at hf;split at hf
   case isFalse=>cases hf
   rename_i ht;cases hf;simp only[VRel]at hv⊢;obtain⟨a,cc,rfl,h1,h2,h3⟩:=hv;refine⟨a,cc,rfl,h1,h2,h3.imp id ?_⟩
   rintro⟨p,hp,rfl,hr⟩
   exact⟨p,by simp only[PMap.below];rw[e6q ⟨ht,by simpa[e6u]using hb⟩];exact hp,rfl,hr⟩
  ·rename_i hb;exact a6e (I:=I) hI (hd b _ _ _ (.inr (.inr ⟨off,len,cap,rfl⟩)) (by simpa[e6u]using hb) hf hv)
 |.map b,v',c,hf,hv=>by
  simp only[a30,d4c]at hf;rw[cond_eq_ite]at hf;split at hf
  ·rename_i hb;rw[cond_eq_ite]at hf;split at hf
   case isFalse=>cases hf
   rename_i ht;cases hf;simp only[VRel]at hv⊢;obtain⟨p,hp,rfl⟩:=hv;exact⟨p,by simp only[PMap.below];rw[e6q ⟨ht,by simpa[e6u]using hb⟩];exact hp,rfl⟩
  ·rename_i hb;exact a6e (I:=I) hI (hd b _ _ _ (.inl rfl) (by simpa[e6u]using hb) hf hv)
 |.yfn b,v',c,hf,hv=>by
  simp only[a30]at hf;rw[cond_eq_ite]at hf;split at hf
  case isFalse=>cases hf
  rename_i hb;cases hf;simp only[c11,e6u]at hb;simp only[VRel]at hv⊢;obtain⟨p,hp,rfl⟩:=hv;exact⟨p,by simp only[PMap.below];rw[e6q hb];exact hp,rfl⟩
 |.func fn fs cs,v',c,hf,hv=>by
  simp only[a30]at hf;split at hf
  case h_2=>cases hf
  rename_i bT aF h1 h2;cases hf;simp only[VRel]at hv⊢;obtain⟨a,b,rfl,h3,h4⟩:=hv;exact⟨a,b,rfl,a7g hI hd fs h1 h3,a7g hI hd cs h2 h4⟩
 |.iface t x,v',c,hf,hv=>by
  simp only[a30]at hf;split at hf
  case h_2=>cases hf
  rename_i x' h1;cases hf;simp only[VRel]at hv⊢;obtain⟨a,rfl,h3⟩:=hv;exact⟨a,rfl,a9z hI hd x h1 h3⟩
 |.agg cs,v',c,hf,hv=>by
  simp only[a30]at hf;split at hf
  case h_2=>cases hf
  rename_i aF h1;cases hf;simp only[VRel]at hv⊢;obtain⟨a,rfl,h3⟩:=hv;exact⟨a,rfl,a7g hI hd cs h1 h3⟩
 |.tuple cs,v',c,hf,hv=>by
  simp only[a30]at hf;split at hf
  case h_2=>cases hf
  rename_i aF h1;cases hf;simp only[VRel]at hv⊢;obtain⟨a,rfl,h3⟩:=hv;exact⟨a,rfl,a7g hI hd cs h1 h3⟩
 |.iptr cs,v',c,hf,hv=>by simp only[a30,Option.some.injEq]at hf;subst hf;exact a6e (I:=I) hI (VRel.mono (ρ:=noP) (ρ':=noP) hI (λ_ _=>rfl) _ (λ_ _ h=>h) (by simpa only[VRel]using hv))
 |.islice aa cap,v',c,hf,hv=>by simp only[a30,Option.some.injEq]at hf;subst hf;exact a6e (I:=I) hI (VRel.mono (ρ:=noP) (ρ':=noP) hI (λ_ _=>rfl) _ (λ_ _ h=>h) (by simpa only[VRel]using hv))
 |.imap ks vs bs bd,v',c,hf,hv=>by simp only[a30,Option.some.injEq]at hf;subst hf;exact a6e (I:=I) hI (VRel.mono (ρ:=noP) (ρ':=noP) hI (λ_ _=>rfl) _ (λ_ _ h=>h) (by simpa only[VRel]using hv))
 |.iset ks,v',c,hf,hv=>by simp only[a30,Option.some.injEq]at hf;subst hf;exact a6e (I:=I) hI (VRel.mono (ρ:=noP) (ρ':=noP) hI (λ_ _=>rfl) _ (λ_ _ h=>h) (by simpa only[VRel]using hv))
 |.junk,v',c,hf,hv=>by simp only[a30,Option.some.injEq]at hf;subst hf;simp[VRel]
 |.bool b,v',c,hf,hv=>by simp only[a30,Option.some.injEq]at hf;subst hf;simpa[VRel]using hv
 |.int k n,v',c,hf,hv=>by simp only[a30,Option.some.injEq]at hf;subst hf;simpa[VRel]using hv
 |.str s,v',c,hf,hv=>by simp only[a30,Option.some.injEq]at hf;subst hf;simpa[VRel]using hv
 |.nilptr,v',c,hf,hv=>by simp only[a30,Option.some.injEq]at hf;subst hf;simpa[VRel]using hv
 |.nilslice,v',c,hf,hv=>by simp only[a30,Option.some.injEq]at hf;subst hf;simpa[VRel]using hv
 |.nilmap,v',c,hf,hv=>by simp only[a30,Option.some.injEq]at hf;subst hf;simpa[VRel]using hv
 |.nilfunc,v',c,hf,hv=>by simp only[a30,Option.some.injEq]at hf;subst hf;simpa[VRel]using hv
 |.nilifc,v',c,hf,hv=>by simp only[a30,Option.some.injEq]at hf;subst hf;simpa[VRel]using hv
theorem a7g(hI:∀c,I c→I' c)(hd:c15 I' I w ρ m d):∀(vs:List AV) {dj:List AV} {cs:List Value},a4l m top d vs=some dj→VRels I w ρ vs cs→VRels I' w (ρ.below m top) dj cs
 | [],dj,cs,hf,hv=>by simp only[a4l,Option.some.injEq]at hf;subst hf;simpa[VRels]using hv
 |v::vs,dj,cs,hf,hv=>by
  simp only[a4l]at hf;split at hf
  case h_2=>cases hf
  rename_i v1 jm h1 h2;cases hf;simp only[VRels]at hv⊢;obtain⟨c,aF,rfl,h3,h4⟩:=hv;exact⟨c,aF,rfl,a9z hI hd v h1 h3,a7g hI hd vs h2 h4⟩
end
theorem a6m(ρ:PMap)(m:Nat):ρ.below m false=noP:=by funext b;simp[PMap.below,noP]
theorem c0f(hI:∀c,I c→I' c)(hd:c15 I' I w ρ m d):∀(vs:List AV) {dj:List AV} {b off:Nat},a4l m false d vs=some dj→VAt I w ρ vs b off→VAt I' w noP dj b off
 | [],dj,b,off,hf,_=>by simp only[a4l,Option.some.injEq]at hf;subst hf;simp[VAt]
 |v::vs,dj,b,off,hf,hv=>by
  simp only[a4l]at hf;split at hf
  case h_2=>cases hf
  rename_i v1 jm h1 h2;cases hf;simp only[VAt]at hv⊢;obtain⟨⟨c,hc,h3⟩,h4⟩:=hv;have:=a9z hI hd v h1 h3;rw[a6m]at this;exact⟨⟨c,hc,this⟩,c0f hI hd vs h2 h4⟩
theorem a8j{m:Nat}{top:Bool}{d:AV→Option AV}:∀{vs dj:List AV},a4l m top d vs=some dj→dj.length=vs.length
 | [],dj,hf=>by simp only[a4l,Option.some.injEq]at hf;subst hf;rfl
 |v::vs,dj,hf=>by
  simp only[a4l]at hf;split at hf
  case h_2=>cases hf
  rename_i v1 jm h1 h2;cases hf;simp[a8j h2]
theorem c83{k:Nat}(hI:∀c,I c→I' c)(hd:c15 I' I w ρ m d):∀(rs:List (List AV)) {dm:List (List AV)} {b off:Nat},a8i m d rs=some dm→VRows I w k ρ rs b off→VRows I' w k noP dm b off
 | [],dm,b,off,hf,_=>by simp only[a8i,Option.some.injEq]at hf;subst hf;simp[VRows]
 |r::rs,dm,b,off,hf,hv=>by
  simp only[a8i]at hf;split at hf
  case h_2=>cases hf
  rename_i v1 jm h1 h2;cases hf;simp only[VRows]at hv⊢;obtain⟨h3,h4,h5⟩:=hv;exact⟨by rw[a8j h1];exact h3,c0f hI hd r h1 h4,c83 hI hd rs h2 h5⟩
def frzT(m:Nat)(d:AV→Option AV):List (List AV)→Option (List (List AV))
 | []=>some []
 |r::rs=>match a4l m true d r,frzT m d rs with
  |some r',some dm=>some (r'::dm)
  |_,_=>none
theorem c24(hI:∀c,I c→I' c)(hd:c15 I' I w ρ m d):∀(vs:List AV) {dj:List AV} {b off:Nat},a4l m true d vs=some dj→VAt I w ρ vs b off→VAt I' w (ρ.below m true) dj b off
 | [],dj,b,off,hf,_=>by simp only[a4l,Option.some.injEq]at hf;subst hf;simp[VAt]
 |v::vs,dj,b,off,hf,hv=>by
  simp only[a4l]at hf;split at hf
  case h_2=>cases hf
  rename_i v1 jm h1 h2;cases hf;simp only[VAt]at hv⊢;obtain⟨⟨c,hc,h3⟩,h4⟩:=hv;exact⟨⟨c,hc,a9z hI hd v h1 h3⟩,c24 hI hd vs h2 h4⟩
theorem c0e{k:Nat}(hI:∀c,I c→I' c)(hd:c15 I' I w ρ m d):∀(rs:List (List AV)) {dm:List (List AV)} {b off:Nat},frzT m d rs=some dm→VRows I w k ρ rs b off→VRows I' w k (ρ.below m true) dm b off
 | [],dm,b,off,hf,_=>by simp only[frzT,Option.some.injEq]at hf;subst hf;simp[VRows]
 |r::rs,dm,b,off,hf,hv=>by
  simp only[frzT]at hf;split at hf
  case h_2=>cases hf
  rename_i v1 jm h1 h2;cases hf;simp only[VRows]at hv⊢;obtain⟨h3,h4,h5⟩:=hv;exact⟨by rw[a8j h1];exact h3,c24 hI hd r h1 h4,c0e hI hd rs h2 h5⟩
theorem a8h{m:Nat}{d:AV→Option AV}:∀{rs dm:List (List AV)},frzT m d rs=some dm→dm.length=rs.length
 | [],dm,hf=>by simp only[frzT,Option.some.injEq]at hf;subst hf;rfl
 |r::rs,dm,hf=>by
  simp only[frzT]at hf;split at hf
  case h_2=>cases hf
  rename_i v1 jm h1 h2;cases hf;simp[a8h h2]
theorem b2q{m:Nat}{d:AV→Option AV}:∀{rs dm:List (List AV)},a8i m d rs=some dm→dm.length=rs.length
 | [],dm,hf=>by simp only[a8i,Option.some.injEq]at hf;subst hf;rfl
 |r::rs,dm,hf=>by
  simp only[a8i]at hf;split at hf
  case h_2=>cases hf
  rename_i v1 jm h1 h2;cases hf;simp[b2q h2]
end
end Go.Ax
/- AxFrz: a result that is frozen, with the heap that is left. -/
namespace Go.Ax
section
variable {G:GTab (List AV)}{I K:Nat→Prop}{ρ:PMap}{h:FHeap}{w:World}{m:Nat}
theorem a4x(r:HRel G I K ρ h w):∀n,c15 (a31 I ρ h m) I w ρ m (a3w h m n)
 |0=>by intro b v v' c _ _ hd _;simp[a3w]at hd
 |n+1=>by
  have ih:=a4x r n;have hI:∀c,I c→a31 I ρ h m c:=λc hc=>.inl hc;intro b v v' c hv hb hd hr;rcases hv with rfl|⟨i,o,rfl⟩|⟨off,len,cap,rfl⟩
  ·simp only[a3w]at hd;split at hd
   case h_3=>cases hd
   case h_2=>rename_i ks cH;cases hd;simp only[VRel]at hr⊢;obtain⟨p,hp,rfl⟩:=hr;obtain⟨p',eI,_,_,es,cl,he,hs⟩:=r.live b _ cH;obtain rfl:p=p':=z9o (hp.symm.trans eI);exact⟨p.blk,es,cl,rfl,.inr ⟨b,_,p,hb,cH,hp,rfl⟩,he,hs⟩
   rename_i ks vs bs cl cH;split at hd
   case h_2=>cases hd
   rename_i ie dj h1 h2;cases hd;simp only[VRel]at hr⊢;obtain⟨p,hp,rfl⟩:=hr;obtain⟨p',eI,_,_,es,he,hk,fO,ox⟩:=r.live b _ cH;obtain rfl:p=p':=z9o (hp.symm.trans eI);have e1:=a7g hI ih ks h1 hk;have e2:=a7g hI ih vs h2 fO;rw[a6m]at e1 e2;exact⟨p.blk,es,rfl,.inr ⟨b,_,p,hb,cH,hp,rfl⟩,he,e1,e2,ox⟩
  ·simp only[a3w]at hd;split at hd
   case h_2=>cases hd
   rename_i k aa cH;split at hd
   case h_2=>cases hd
   rename_i rr qI;split at hd
   case h_2=>cases hd
   rename_i cs h1;cases hd;simp only[VRel]at hr⊢;obtain⟨p,hp,rfl⟩:=hr;obtain⟨p',eI,_,_,hk,_,_,aw⟩:=r.live b _ cH;obtain rfl:p=p':=z9o (hp.symm.trans eI);obtain⟨aj,cA⟩:=VRows.get i aw qI;have gH:VAt I w ρ (rr.drop o) p.blk (p.off+i*k+o):=by
    by_cases ho:o≤rr.length
    ·exact VAt.drop o ho cA
    ·rw[e9v (by omega)];simp[VAt]
   rw[hk];exact⟨p.blk,_,rfl,.inr ⟨b,_,p,hb,cH,hp,rfl⟩,c0f hI ih _ h1 gH⟩
  ·simp only[a3w]at hd;split at hd
   case h_2=>cases hd
   rename_i k aa cH;rw[cond_eq_ite]at hd;split at hd
   case isFalse=>cases hd
   rename_i bB;rw[e8m]at bB;split at hd
   case h_2=>cases hd
   rename_i rs h1;cases hd;have aj:rs.length=len:=by rw[b2q h1];simp;omega
   simp only[VRel]at hr⊢;obtain⟨a,cc,rfl,bf,aY,bI⟩:=hr;obtain⟨p',eI,_,_,hk,_,_,aw⟩:=r.live b _ cH;refine⟨a,cc,k,by rw[aj],by rw[aj];exact bf,aY,?_⟩;rcases bI with rfl|⟨p,hp,rfl,_⟩
   ·left;exact List.length_eq_zero_iff.1 (by omega)
   ·right;obtain rfl:p=p':=z9o (hp.symm.trans eI);refine⟨rfl,.inr ⟨b,_,p,hb,cH,hp,rfl⟩,?_⟩;have:=c83 hI ih _ h1 (VRows.take len (VRows.drop off (by omega) aw));rw[hk];exact this
theorem HRel.grow{I':Nat→Prop}(r:HRel G I K ρ h w)(hI:∀c,I c→I' c)(lD:∀b o m,h b=some o→ρ b=some m→¬I' m.blk)(hK:∀c,I' c→¬K c)(bu:∀c,I' c→c<w.heap.size) :
 HRel G I' K ρ h w:={
 live b o hb:=by obtain⟨m,h1,h2,h3,h4⟩:=r.live b o hb;exact⟨m,h1,lD b o m hb h1,h3,ORel.mono o hI (λ_ _=>rfl) (λ_ _ h=>h) rfl h4⟩
 inj:=r.inj
 dom:=r.dom
 imm:=bu
 kept:=r.kept
 apart:=hK
 glob g cs hg:=⟨hI _ (r.glob g cs hg).1,VAt.mono hI (λ_ _=>rfl) cs (λ_ _ h=>h) rfl (r.glob g cs hg).2⟩}
def a15(m:Nat):Nat→Option Nat:=λb=>bif Nat.blt b m then some b else none
theorem a93(r:HRel G I K ρ h w){n:Nat}{v v':AV}{c:Value}(hf:a30 m true (a3w h m n) v=some v')(hv:VRel I w ρ v c){h':FHeap}
 (hh:∀b o',h' b=some o'→∃o,b<m∧h b=some o∧o'=a0d (a15 m) o) :
 HRel G (a31 I ρ h m) K (ρ.below m true) h' w∧VRel (a31 I ρ h m) w (ρ.below m true) v' c:=by
 have hI:∀c,I c→a31 I ρ h m c:=λc hc=>.inl hc;refine⟨?_,a9z hI (a4x r n) v hf hv⟩;have r0:HRel G I K ρ (λb=>if b<m then h b else none) w:=r.fewer (λb o hb=>by
  split at hb
  ·exact hb
  ·cases hb)
 have r1:HRel G (a31 I ρ h m) K ρ (λb=>if b<m then h b else none) w:=by
  refine r0.grow hI ?_ ?_ ?_
  ·intro b o p hb hp;split at hb
   case isFalse=>cases hb
   rename_i ak;obtain⟨p',eI,cK,_,_⟩:=r.live b o hb;obtain rfl:p=p':=z9o (hp.symm.trans eI)
   rintro(hc|⟨b',o',q,aR,dh,hq,he⟩)
   ·exact cK hc
   ·have:=r.inj b b' p q (by simp[hb]) (by simp[dh]) hp hq he.symm;omega
  ·rintro c (hc|⟨b',o',q,aR,dh,hq,rfl⟩)
   ·exact r.apart c hc
   ·obtain⟨q',fD,_,eh,_⟩:=r.live b' o' dh;obtain rfl:q=q':=z9o (hq.symm.trans fD);exact eh
  ·rintro c (hc|⟨b',o',q,aR,dh,hq,rfl⟩)
   ·exact r.imm c hc
   ·exact r.dom b' q hq
 refine r1.rename (π:=a15 m) ?_ ?_ ?_
 ·intro b b' p hp hb;simp only[a15]at hp;rw[cond_eq_ite]at hp;split at hp
  case isFalse=>cases hp
  rename_i ak;cases hp;simp only[PMap.below];rw[e6q ⟨trivial,by simpa[e6u]using ak⟩];exact hb
 ·intro b o' hb;obtain⟨o,ak,ho,rfl⟩:=hh b o' hb;refine⟨b,o,by rw[e6q ak];exact ho,?_,rfl⟩;simp only[a15];rw[cond_eq_ite,e6q (by simpa[e6u]using ak)]
 ·intro b p hb;simp only[PMap.below]at hb;split at hb
  ·exact r.dom b p hb
  ·cases hb
def b32(m:Nat)(d:AV→Option AV):AObj→AObj
 |.row k aa=>match frzT m d aa with
  |some a6=>.row k a6
  |none=>a0d (a15 m) (.row k aa)
 |o=>a0d (a15 m) o
theorem d2d(m:Nat)(d:AV→Option AV)(o:AObj):b32 m d o=a0d (a15 m) o∨∃k aa a6,o = .row k aa∧frzT m d aa=some a6∧b32 m d o = .row k a6:=by
 cases o with
 |row k aa=>
  cases hf:frzT m d aa with
  |none=>left;simp[b32,hf]
  |some a6=>right;exact⟨k,aa,a6,rfl,hf,by simp[b32,hf]⟩
 |_=>left;rfl
theorem c0h(r:HRel G I K ρ h w){n:Nat}{h':FHeap}(hh:∀b o',h' b=some o'→∃o,b<m∧h b=some o∧o'=b32 m (a3w h m n) o) :
 HRel G (a31 I ρ h m) K (ρ.below m true) h' w:=by
 have hI:∀c,I c→a31 I ρ h m c:=λc hc=>.inl hc;have h1:=(a93 (h':=λb=>if b<m then(h b).map (a0d (a15 m))else none) r (v:=.junk) (v':=.junk) (c:=.nilFunc) (n:=n) (m:=m) rfl (by simp[VRel]) (λb o' hb=>by
  split at hb
  case isFalse=>cases hb
  rename_i ak;cases hx:h b with
  |none=>rw[hx]at hb;cases hb
  |some o=>rw[hx]at hb;cases hb;exact⟨o,ak,rfl,rfl⟩)).1
 have low:∀b,(h' b).isSome→(if b<m then(h b).map (a0d (a15 m))else none).isSome:=by intro b hb;obtain⟨o',ho⟩:=e4v.1 hb;obtain⟨o,ak,hx,_⟩:=hh b o' ho;rw[e6q ak,hx];rfl
 refine⟨?_,λb b' p p' hb aR=>h1.inj b b' p p' (low b hb) (low b' aR),h1.dom,h1.imm,h1.kept,h1.apart,h1.glob⟩;intro b o' hb;obtain⟨o,ak,hx,rfl⟩:=hh b o' hb;obtain⟨p,hp,nL,eh,hO⟩:=h1.live b (a0d (a15 m) o) (by simp only[e6q ak,hx,e5p]);refine⟨p,hp,nL,eh,?_⟩;rcases d2d m (a3w h m n) o with e|⟨k,aa,a6,rfl,hf,e⟩
 ·rw[e];exact hO
 ·rw[e];obtain⟨p',eI,_,_,hk,hk0,⟨bD,el,kA,l6,l5⟩,aw⟩:=r.live b _ hx;have dE:ρ b=some p:=by
   simp only[PMap.below]at hp;rw[e6q ⟨trivial,ak⟩]at hp;exact hp
  obtain rfl:p=p':=z9o (dE.symm.trans eI);exact⟨hk,hk0,⟨bD,el,kA,l6,by rw[a8h hf];exact l5⟩,c0e hI (a4x r n) aa hf aw⟩
end
end Go.Ax
