/- AxCore: abstract values, abstract heap objects, and what they say of a world. No condition: definitions and their monotonicity. -/
import Derived.Orders
import Derived.Scope
import Derived.Laws.Sem
import Derived.Laws.CopyRow
import GoSem.Extern.Table
import Derived.Laws.Strings
import GoSem.Builtin.Append
import GoSem.Builtin.Len
import GoSem.Builtin.Cap
import GoSem.Builtin.Min
import GoSem.Builtin.Max
import GoSem.Builtin.Copy
import GoSem.Builtin.Clear
import GoSem.Instr.MapUpdate
import GoSem.Instr.MapEntry
import GoSem.Builtin.Delete
import GoSem.Instr.Range
import GoSem.Instr.Next
import GoSem.Instr.Entry
import GoSem.Dispatch
set_option linter.unusedSimpArgs false
set_option linter.unusedVariables false
namespace Go.Ax
theorem c10:type_of% @List.length_map:=@List.length_map
theorem c11:type_of% @List.mem_of_getElem?:=@List.mem_of_getElem?
theorem e12:type_of% @List.append_assoc:=@List.append_assoc
theorem f1a:type_of% @List.map_cons:=@List.map_cons
theorem f1b:type_of% @List.append_nil:=@List.append_nil
theorem f1c:type_of% @List.length_cons:=@List.length_cons
theorem f1d:type_of% @Bool.and_eq_true:=@Bool.and_eq_true
theorem f1e:type_of% @List.nil_append:=@List.nil_append
theorem f1g:type_of% @List.map_nil:=@List.map_nil
theorem f1h:type_of% @List.length_nil:=@List.length_nil
theorem f1i:type_of% @List.getElem?_eq_some_iff:=@List.getElem?_eq_some_iff
theorem f1j:type_of% @Option.isSome_iff_exists:=@Option.isSome_iff_exists
theorem f1k:type_of% @List.take_of_length_le:=@List.take_of_length_le
theorem f1l:type_of% @List.getElem?_map:=@List.getElem?_map
theorem f2i:type_of% @Nat.zero_le:=@Nat.zero_le
theorem f2j:type_of% @List.take_zero:=@List.take_zero
theorem f2k:type_of% @Option.map_some:=@Option.map_some
theorem f2l:type_of% @List.getElem?_append_left:=@List.getElem?_append_left
theorem f2m:type_of% @if_neg:=@if_neg
theorem f2n:type_of% @List.length_append:=@List.length_append
theorem f2o:type_of% @List.cons_append:=@List.cons_append
theorem f2p:type_of% @List.getD_eq_getElem?_getD:=@List.getD_eq_getElem?_getD
theorem f2q:type_of% @Nat.le_refl:=@Nat.le_refl
theorem f2r:type_of% @List.getElem?_append_right:=@List.getElem?_append_right
theorem f2s:type_of% @List.getElem?_eq_none:=@List.getElem?_eq_none
theorem f2t:type_of% @List.map_append:=@List.map_append
theorem f2u:type_of% @Nat.zero_add:=@Nat.zero_add
theorem f2v:type_of% @cond_true:=@cond_true
theorem f2w:type_of% @if_pos:=@if_pos
theorem f2x:type_of% @List.mem_singleton:=@List.mem_singleton
theorem f2y:type_of% @decide_eq_true_eq:=@decide_eq_true_eq
theorem f2z:type_of% @List.length_take:=@List.length_take
theorem f3a:type_of% @List.getElem?_set:=@List.getElem?_set
theorem f3b:type_of% @List.length_range:=@List.length_range
theorem f3c:type_of% @List.take_succ_cons:=@List.take_succ_cons
theorem f4g:type_of% @List.exists_cons_of_ne_nil:=@List.exists_cons_of_ne_nil
theorem f4h:type_of% @List.mem_cons:=@List.mem_cons
theorem f4i:type_of% @cond_false:=@cond_false
theorem f4k:type_of% @List.flatMap_cons:=@List.flatMap_cons
theorem f4l:type_of% @List.all_eq_true:=@List.all_eq_true
theorem f4m:type_of% @decide_eq_true:=@decide_eq_true
theorem f4n:type_of% @List.getElem?_mapIdx:=@List.getElem?_mapIdx
theorem f4o:type_of% @Nat.blt_eq:=@Nat.blt_eq
theorem f4p:type_of% @Array.length_toList:=@Array.length_toList
theorem f4q:type_of% @List.length_set:=@List.length_set
theorem f4r:type_of% @List.getElem?_cons_succ:=@List.getElem?_cons_succ
theorem f4s:type_of% @List.mem_append:=@List.mem_append
theorem f4t:type_of% @List.eq_of_mem_replicate:=@List.eq_of_mem_replicate
theorem f4u:type_of% @Array.getD_eq_getD_getElem?:=@Array.getD_eq_getD_getElem?
theorem f4v:type_of% @Option.getD_some:=@Option.getD_some
theorem f4w:type_of% @List.getElem?_replicate:=@List.getElem?_replicate
theorem f4x:type_of% @List.ext_getElem?:=@List.ext_getElem?
theorem f4y:type_of% @List.map_congr_left:=@List.map_congr_left
theorem f4z:type_of% @List.getElem?_cons_zero:=@List.getElem?_cons_zero
theorem f5a:type_of% @Array.getElem?_setIfInBounds:=@Array.getElem?_setIfInBounds
theorem f5b:type_of% @Array.getElem?_eq_some_iff:=@Array.getElem?_eq_some_iff
theorem f6o:type_of% @beq_eq_false_iff_ne:=@beq_eq_false_iff_ne
theorem f6p:type_of% @List.take_length:=@List.take_length
theorem f6q:type_of% @List.mem_map:=@List.mem_map
theorem f6r:type_of% @List.mem_cons_of_mem:=@List.mem_cons_of_mem
theorem f6s:type_of% @List.drop_zero:=@List.drop_zero
theorem f6t:type_of% @Bool.false_eq_true:=@Bool.false_eq_true
theorem f6u:type_of% @Nat.lt_or_ge:=@Nat.lt_or_ge
theorem f6v:type_of% @List.getElem?_range:=@List.getElem?_range
theorem f6w:type_of% @decide_eq_false:=@decide_eq_false
theorem f6x:type_of% @List.take_nil:=@List.take_nil
theorem f6y:type_of% @List.map_set:=@List.map_set
theorem f6z:type_of% @Bool.not_eq_true':=@Bool.not_eq_true'
theorem f7a:type_of% @List.flatten_cons:=@List.flatten_cons
theorem f7b:type_of% @List.mem_map_of_mem:=@List.mem_map_of_mem
theorem f7c:type_of% @List.map_map:=@List.map_map
theorem f7e:type_of% @List.idxOf?_cons:=@List.idxOf?_cons
theorem f7f:type_of% @List.getElem?_toArray:=@List.getElem?_toArray
theorem f7g:type_of% @Nat.add_sub_cancel_left:=@Nat.add_sub_cancel_left
theorem f7h:type_of% @Bool.and_self:=@Bool.and_self
theorem f7i:type_of% @if_true:=@if_true
theorem f7j:type_of% @Nat.mul_le_mul_right:=@Nat.mul_le_mul_right
theorem f7k:type_of% @Nat.ble_eq:=@Nat.ble_eq
theorem f7l:type_of% @List.mem_cons_self:=@List.mem_cons_self
theorem f7n:type_of% @List.mem_range:=@List.mem_range
theorem f7o:type_of% @Nat.eq_of_beq_eq_true:=@Nat.eq_of_beq_eq_true
theorem f7p:type_of% @List.mem_iff_getElem?:=@List.mem_iff_getElem?
theorem f7q:type_of% @of_eq_true:=@of_eq_true
theorem f7r:type_of% @List.flatMap_append:=@List.flatMap_append
theorem f7s:type_of% @Option.bind_some:=@Option.bind_some
theorem f7t:type_of% @List.flatMap_nil:=@List.flatMap_nil
theorem f7u:type_of% @beq_iff_eq:=@beq_iff_eq
theorem f8d:type_of% @List.mem_or_eq_of_mem_set:=@List.mem_or_eq_of_mem_set
theorem f8e:type_of% @List.append_eq_nil_iff:=@List.append_eq_nil_iff
theorem f8f:type_of% @Bool.true_and:=@Bool.true_and
theorem f8g:type_of% @Nat.add_mul:=@Nat.add_mul
theorem f8h:type_of% @Array.getElem?_toList:=@Array.getElem?_toList
theorem f8i:type_of% @List.replicate_succ:=@List.replicate_succ
theorem f8j:type_of% @List.nodup_cons:=@List.nodup_cons
theorem f8k:type_of% @decide_true:=@decide_true
theorem f8l:type_of% @Nat.not_lt_zero:=@Nat.not_lt_zero
theorem f8o:type_of% @List.range_succ:=@List.range_succ
theorem f8q:type_of% @Array.toList_map:=@Array.toList_map
theorem f8r:type_of% @Option.join_some:=@Option.join_some
theorem f8s:type_of% @and_true:=@and_true
theorem f8t:type_of% @Bool.not_true:=@Bool.not_true
theorem f8u:type_of% @Array.toList_push:=@Array.toList_push
theorem f8v:type_of% @List.getElem?_take:=@List.getElem?_take
theorem f8w:type_of% @Bool.or_eq_true:=@Bool.or_eq_true
theorem f8x:type_of% @List.mem_filter:=@List.mem_filter
theorem f8y:type_of% @List.map_replicate:=@List.map_replicate
theorem f8z:type_of% @Nat.add_zero:=@Nat.add_zero
theorem f9a:type_of% @List.drop_eq_nil_of_le:=@List.drop_eq_nil_of_le
theorem f9b:type_of% @Array.ext':=@Array.ext'
theorem f9c:type_of% @Array.getElem?_push:=@Array.getElem?_push
theorem f9d:type_of% @if_false:=@if_false
theorem f9h:type_of% @true_and:=@true_and
theorem f9i:type_of% @List.length_replicate:=@List.length_replicate
theorem f9j:type_of% @List.take_append_drop:=@List.take_append_drop
theorem f9k:type_of% @List.mem_flatMap:=@List.mem_flatMap
theorem f9l:type_of% @Ne.symm:=@Ne.symm
theorem g0h:type_of% @Nat.succ_mul:=@Nat.succ_mul
theorem g0i:type_of% @Bool.eq_iff_iff:=@Bool.eq_iff_iff
theorem g0j:type_of% @Nat.beq_eq:=@Nat.beq_eq
theorem g0k:type_of% @List.not_mem_nil:=@List.not_mem_nil
theorem g0l:type_of% @List.getElem_mem:=@List.getElem_mem
theorem g0m:type_of% @Nat.add_assoc:=@Nat.add_assoc
theorem g0n:type_of% @Nat.le_trans:=@Nat.le_trans
theorem g0o:type_of% @decide_false:=@decide_false
theorem z9e{α:Type}{l:List α}{i:Nat}(h:i<l.length):l[i]?=some l[i]:=List.getElem?_eq_getElem h
theorem z9o{α:Type}{a b:α}(h:some a=some b):a=b:=Option.some.inj h
inductive AV where
 |junk
 |bool (b:Bool)
 |int (k:IntKind)(n:Int)
 |str (s:List UInt8)
 |nilptr
 |nilslice
 |nilmap
 |nilfunc
 |nilifc
 |ptr (b i o:Nat)
 |iptr (cells:List AV)
 |slice (b off len:Nat)(cap:Option Nat)
 |islice (aa:List (List AV))(cap:Option Nat)
 |map (b:Nat)
 |imap (ks vs:List AV)(bs:List Nat)(br:Nat)
 |iset (ks:List Int)
 |yfn (b:Nat)
 |func (fn:Fn)(first ie:List AV)
 |iface (t:TypeId)(v:AV)
 |agg (cells:List AV)
 |tuple (vs:List AV)
 deriving Inhabited
structure Pl where
 blk:Nat
 off:Nat
 k:Nat
 room:Nat
abbrev PMap:=Nat->Option Pl
def noP:PMap:=λ_=>none
def USet(ks:List Int)(es:Array MapEntry)(cl:Nat):Prop:=(es.toList.map (·.key)).Perm (ks.map (Value.int .i64))∧(∀e∈es.toList,e.val = .bool true)∧ks.Nodup∧(es.toList.map (·.born)).Nodup∧∀e∈es.toList,e.born<cl
mutual
def VRel(I:Nat->Prop)(w:World):PMap->AV->Value->Prop
 |_,.junk,_=>True
 |_,.bool b,v=>v = .bool b
 |_,.int k n,v=>v = .int k n
 |_,.str s,v=>∃t:ByteArray,v = .string t∧t.data.toList=s
 |_,.nilptr,v=>v = .pointer none
 |_,.nilslice,v=>v = .slice none 0 0
 |_,.nilmap,v=>v = .map none
 |_,.nilfunc,v=>v = .nilFunc
 |_,.nilifc,v=>v = .nilIface
 |ρ,.ptr b i o,v=>∃m,ρ b=some m∧v = .pointer (some ⟨m.blk,m.off+i*m.k+o,none⟩)
 |_,.iptr cs,v=>∃c off,v = .pointer (some ⟨c,off,none⟩)∧I c∧VAt I w noP cs c off
 |ρ,.slice b off len cap,v=>∃a c,v = .slice (some a) len c∧len<=c∧(∀n,cap=some n->c=n)∧
  (c=0∨∃m,ρ b=some m∧a=⟨m.blk,m.off+off*m.k,none⟩∧m.off+(off+c)*m.k<=m.room)
 |_,.islice aa cap,v=>∃a c k,v = .slice (some a) aa.length c∧aa.length<=c∧(∀n,cap=some n->c=n)∧
  (aa=[]∨(a.spot=none∧I a.block∧VRows I w k noP aa a.block a.off))
 |ρ,.map b,v=>∃m,ρ b=some m∧v = .map (some m.blk)
 |_,.imap ks vs bs br,v=>∃c es,v = .map (some c)∧I c∧w.heap[c]?=some (.map es br)∧
  VRels I w noP ks (es.toList.map (·.key))∧VRels I w noP vs (es.toList.map (·.val))∧es.toList.map (·.born)=bs
 |_,.iset ks,v=>∃c es cl,v = .map (some c)∧I c∧w.heap[c]?=some (.map es cl)∧USet ks es cl
 |ρ,.yfn b,v=>∃m,ρ b=some m∧v = .func (.yield m.blk) #[] #[]
 |ρ,.func fn fs cs,v=>∃dj aO:Array Value,v = .func fn dj aO∧VRels I w ρ fs dj.toList∧VRels I w ρ cs aO.toList
 |ρ,.iface t x,v=>∃x',v = .iface t x'∧VRel I w ρ x x'
 |ρ,.agg cs,v=>∃aO:Array Value,v = .agg aO∧VRels I w ρ cs aO.toList
 |ρ,.tuple cs,v=>∃aO:Array Value,v = .tuple aO∧VRels I w ρ cs aO.toList
def VRels(I:Nat->Prop)(w:World):PMap->List AV->List Value->Prop
 |_,[],l=>l=[]
 |ρ,v::vs,l=>∃c cs,l=c::cs∧VRel I w ρ v c∧VRels I w ρ vs cs
def VAt(I:Nat->Prop)(w:World):PMap->List AV->Nat->Nat->Prop
 |_,[],_,_=>True
 |ρ,v::vs,b,off=>(∃c,w.cell? ⟨b,off,none⟩=some c∧VRel I w ρ v c)∧VAt I w ρ vs b (off+1)
def VRows(I:Nat->Prop)(w:World)(k:Nat):PMap->List (List AV)->Nat->Nat->Prop
 |_,[],_,_=>True
 |ρ,r::rs,b,off=>r.length=k∧VAt I w ρ r b off∧VRows I w k ρ rs b (off+k)
end
theorem b5u{w w':World}{b o:Nat}(h:w'.heap[b]?=w.heap[b]?):w'.cell? ⟨b,o,none⟩=w.cell? ⟨b,o,none⟩:=by simp[World.cell?,h]
section
variable {I I':Nat->Prop}{w w':World}
mutual
theorem VRel.mono(hI:∀c,I c->I' c)(hw:∀c,I c->w'.heap[c]?=w.heap[c]?) :
 ∀{ρ ρ':PMap} (v:AV) {c:Value},(∀b m,ρ b=some m->ρ' b=some m)->VRel I w ρ v c->VRel I' w' ρ' v c
 |ρ,ρ',v,c,hρ,h=>by
  cases v with
  |junk=>simp[VRel]
  |bool b=>simpa[VRel]using h
  |int k n=>simpa[VRel]using h
  |str s=>simpa[VRel]using h
  |nilptr=>simpa[VRel]using h
  |nilslice=>simpa[VRel]using h
  |nilmap=>simpa[VRel]using h
  |nilfunc=>simpa[VRel]using h
  |nilifc=>simpa[VRel]using h
  |ptr b i o=>simp only[VRel]at h⊢;obtain⟨m,hm,rfl⟩:=h;exact⟨m,hρ b m hm,rfl⟩
  |iptr cs=>simp only[VRel]at h⊢;obtain⟨b,off,rfl,hb,h⟩:=h;exact⟨b,off,rfl,hI _ hb,VAt.mono hI hw cs (λ_ _ h=>h) (hw _ hb) h⟩
  |slice b off len cap=>
   simp only[VRel]at h⊢;obtain⟨a,n,rfl,h1,h2,h3⟩:=h;refine⟨a,n,rfl,h1,h2,h3.imp id ?_⟩
   rintro⟨m,hm,rfl,hr⟩
   exact⟨m,hρ b m hm,rfl,hr⟩
  |islice aa cap=>
   simp only[VRel]at h⊢;obtain⟨a,n,k,rfl,h1,h2,h3⟩:=h;refine⟨a,n,k,rfl,h1,h2,h3.imp id ?_⟩
   rintro⟨hs,hb,h⟩
   exact⟨hs,hI _ hb,VRows.mono hI hw aa (λ_ _ h=>h) (hw _ hb) h⟩
  |map b=>simp only[VRel]at h⊢;obtain⟨m,hm,rfl⟩:=h;exact⟨m,hρ b m hm,rfl⟩
  |imap ks vs bs br=>simp only[VRel]at h⊢;obtain⟨b,es,rfl,hb,he,h1,h2,h3⟩:=h;exact⟨b,es,rfl,hI _ hb,by rw[hw _ hb,he],VRels.mono hI hw ks (λ_ _ h=>h) h1,VRels.mono hI hw vs (λ_ _ h=>h) h2,h3⟩
  |iset ks=>simp only[VRel]at h⊢;obtain⟨b,es,cl,rfl,hb,he,h1⟩:=h;exact⟨b,es,cl,rfl,hI _ hb,by rw[hw _ hb,he],h1⟩
  |yfn b=>simp only[VRel]at h⊢;obtain⟨m,hm,rfl⟩:=h;exact⟨m,hρ b m hm,rfl⟩
  |func fn fs cs=>simp only[VRel]at h⊢;obtain⟨dj,aO,rfl,h1,h2⟩:=h;exact⟨dj,aO,rfl,VRels.mono hI hw fs hρ h1,VRels.mono hI hw cs hρ h2⟩
  |iface t x=>simp only[VRel]at h⊢;obtain⟨x',rfl,h⟩:=h;exact⟨x',rfl,VRel.mono hI hw x hρ h⟩
  |agg cs=>simp only[VRel]at h⊢;obtain⟨aO,rfl,h⟩:=h;exact⟨aO,rfl,VRels.mono hI hw cs hρ h⟩
  |tuple cs=>simp only[VRel]at h⊢;obtain⟨aO,rfl,h⟩:=h;exact⟨aO,rfl,VRels.mono hI hw cs hρ h⟩
theorem VRels.mono(hI:∀c,I c->I' c)(hw:∀c,I c->w'.heap[c]?=w.heap[c]?) :
 ∀{ρ ρ':PMap} (vs:List AV) {cs:List Value},(∀b m,ρ b=some m->ρ' b=some m)->VRels I w ρ vs cs->VRels I' w' ρ' vs cs
 |ρ,ρ',[],cs,hρ,h=>by simpa[VRels]using h
 |ρ,ρ',v::vs,cs,hρ,h=>by simp only[VRels]at h⊢;obtain⟨c,aO,rfl,h1,h2⟩:=h;exact⟨c,aO,rfl,VRel.mono hI hw v hρ h1,VRels.mono hI hw vs hρ h2⟩
theorem VAt.mono(hI:∀c,I c->I' c)(hw:∀c,I c->w'.heap[c]?=w.heap[c]?) :
 ∀{ρ ρ':PMap} (vs:List AV) {b off:Nat},(∀b m,ρ b=some m->ρ' b=some m)->w'.heap[b]?=w.heap[b]?->VAt I w ρ vs b off->VAt I' w' ρ' vs b off
 |ρ,ρ',[],b,off,hρ,hb,h=>by simp[VAt]
 |ρ,ρ',v::vs,b,off,hρ,hb,h=>by simp only[VAt]at h⊢;obtain⟨⟨c,hc,h1⟩,h2⟩:=h;exact⟨⟨c,by rw[b5u hb,hc],VRel.mono hI hw v hρ h1⟩,VAt.mono hI hw vs hρ hb h2⟩
theorem VRows.mono{k:Nat}(hI:∀c,I c->I' c)(hw:∀c,I c->w'.heap[c]?=w.heap[c]?) :
 ∀{ρ ρ':PMap} (rs:List (List AV)) {b off:Nat},(∀b m,ρ b=some m->ρ' b=some m)->w'.heap[b]?=w.heap[b]?->VRows I w k ρ rs b off->VRows I' w' k ρ' rs b off
 |ρ,ρ',[],b,off,hρ,hb,h=>by simp[VRows]
 |ρ,ρ',r::rs,b,off,hρ,hb,h=>by simp only[VRows]at h⊢;obtain⟨h0,h1,h2⟩:=h;exact⟨h0,VAt.mono hI hw r hρ hb h1,VRows.mono hI hw rs hρ hb h2⟩
end
end
end Go.Ax
/- AxRel: abstract heaps against worlds; what a step may change; renaming of block numbers. -/
namespace Go.Ax
inductive YSt where
 |ready
 |busy
 |done (id:Option Nat)
 deriving Inhabited,DecidableEq
structure RInfo where
 N:Nat
 ps:List Nat
 asg:Code
 body:Code
 fid:Nat
structure GTab(α:Type) where
 glob:Nat->Option α
 rnd:Nat->Option RInfo
instance {α:Type}:CoeFun (GTab α) (λ_=>Nat->Option α):=⟨GTab.glob⟩
def b68:Code->Bool
 |.rangeFunc _ _ _ _=>false
 |.seq a b=>b68 a&&b68 b
 |.cond _ a b=>b68 a&&b68 b
 |.block _ b=>b68 b
 |.loop b=>b68 b
 |.scope b=>b68 b
 |_=>true
def c5j:Option Nat->Code
 |none=>.ret
 |some id=>.exit id
inductive AObj where
 |row (k:Nat)(aa:List (List AV))
 |map (ks vs:List AV)(bs:List Nat)(br:Nat)
 |siter (s:List UInt8)(pos:Nat)
 |uset (ks:List Int)
 |miter (ks dC:List Int)(dK:Option (Option Int))
 |yloop (y:Nat)(F:List (Nat×AV))(st:YSt)
 deriving Inhabited
def c0x:List (Nat×AV)->Nat->AV
 | [],_=>.junk
 |(s,v)::r,t=>bif Nat.beq s t then v else c0x r t
def g1t(G:GTab (List AV))(I:Nat->Prop)(w:World)(ρ:PMap)(l:Nat)(y:Nat)(F:List (Nat×AV))(st:YSt):Prop:=
 ∃(ri:RInfo) (r:Loop),G.rnd y=some ri∧w.heap[l]?=some (.loop r)∧r.tmps.size=ri.N∧r.params.toList=ri.ps∧r.assign=ri.asg∧r.body=ri.body∧(∀s,VRel I w ρ (c0x F s) (r.tmps.getD s undef))∧
  (match st with
   |.ready=>r.state = .ready∧r.pending=none
   |.busy=>r.state = .busy
   |.done j=>r.state = .done∧r.pending=some (c5j j))
def g1u(es:Array MapEntry)(seen:Array Nat)(dC:List Int):Prop:=∃dI:List MapEntry,(∀e∈dI,e∈es.toList)∧dI.map (·.born)=seen.toList∧dI.map (·.key)=dC.map (Value.int .i64)
abbrev FHeap:=Nat->Option AObj
def ORel(G:GTab (List AV))(I:Nat->Prop)(w:World)(ρ:PMap)(m:Pl):AObj->Prop
 |.row k aa=>m.k=k∧0<k∧(∃cI e,w.heap[m.blk]?=some (.cells cI e (0,0))∧cI.size=m.room∧m.off+aa.length*k<=m.room)∧VRows I w k ρ aa m.blk m.off
 |.map ks vs bs br=>∃es,w.heap[m.blk]?=some (.map es br)∧VRels I w ρ ks (es.toList.map (·.key))∧VRels I w ρ vs (es.toList.map (·.val))∧es.toList.map (·.born)=bs
 |.siter s pos=>m.off=0∧∃t,w.heap[m.blk]?=some (.stringIter t pos)∧t.data.toList=s
 |.uset ks=>∃es cl,w.heap[m.blk]?=some (.map es cl)∧USet ks es cl
 |.miter ks dC _=>m.off=0∧((ks=[]∧dC=[]∧w.heap[m.blk]?=some (.mapIter none 0 #[] 0))∨
  ∃c es cl seen,I c∧w.heap[c]?=some (.map es cl)∧USet ks es cl∧w.heap[m.blk]?=some (.mapIter (some c) cl seen cl)∧g1u es seen dC)
 |.yloop y F st=>g1t G I w ρ m.blk y F st
structure HRel(G:GTab (List AV))(I K:Nat->Prop)(ρ:PMap)(h:FHeap)(w:World):Prop where
 live:∀b o,h b=some o->∃m,ρ b=some m∧¬I m.blk∧¬K m.blk∧ORel G I w ρ m o
 inj:∀b b' m m',(h b).isSome->(h b').isSome->ρ b=some m->ρ b'=some m'->m.blk=m'.blk->b=b'
 dom:∀b m,ρ b=some m->m.blk<w.heap.size
 imm:∀c,I c->c<w.heap.size
 kept:∀c,K c->c<w.heap.size
 apart:∀c,I c->¬K c
 glob:∀g cs,G g=some cs->I g∧VAt I w noP cs g 0
structure Ext(I K:Nat->Prop)(w w':World):Prop where
 os:w'.os=w.os
 tape:w'.tape=w.tape
 output:w'.output=w.output
 size:w.heap.size<=w'.heap.size
 keep:∀c,I c∨K c->w'.heap[c]?=w.heap[c]?
theorem Ext.refl(I K:Nat->Prop)(w:World):Ext I K w w:=⟨rfl,rfl,rfl,f2q _,λ_ _=>rfl⟩
theorem Ext.trans{I I' K:Nat->Prop}{w w' kN:World}(hI:∀c,I c->I' c)(h:Ext I K w w')(k:Ext I' K w' kN):Ext I K w kN:=
 ⟨k.os.trans h.os,k.tape.trans h.tape,k.output.trans h.output,g0n h.size k.size,
  λc hc=>(k.keep c (hc.imp (hI c) id)).trans (h.keep c hc)⟩
theorem ORel.mono{G:GTab (List AV)}{I I':Nat->Prop}{w w':World}{ρ ρ':PMap}{m:Pl}(o:AObj)(hI:∀c,I c->I' c)(hw:∀c,I c->w'.heap[c]?=w.heap[c]?)
 (hρ:∀b m,ρ b=some m->ρ' b=some m)(hb:w'.heap[m.blk]?=w.heap[m.blk]?)(h:ORel G I w ρ m o):ORel G I' w' ρ' m o:=by
 cases o with
 |row k aa=>obtain⟨h1,h2,⟨cI,e,h3,h4⟩,h5⟩:=h;exact⟨h1,h2,⟨cI,e,by rw[hb,h3],h4⟩,VRows.mono hI hw aa hρ hb h5⟩
 |map ks vs bs br=>obtain⟨es,h1,h2,h3,h4⟩:=h;exact⟨es,by rw[hb,h1],VRels.mono hI hw ks hρ h2,VRels.mono hI hw vs hρ h3,h4⟩
 |siter s pos=>obtain⟨h0,t,h1,h2⟩:=h;exact⟨h0,t,by rw[hb,h1],h2⟩
 |uset ks=>obtain⟨es,cl,h1,h2⟩:=h;exact⟨es,cl,by rw[hb,h1],h2⟩
 |miter ks dC dK=>
  obtain⟨h0,h⟩:=h;rcases h with ⟨h1,h2,h3⟩|⟨c,es,cl,seen,h1,h2,h3,h4,h5⟩
  ·exact⟨h0,.inl ⟨h1,h2,by rw[hb,h3]⟩⟩
  ·exact⟨h0,.inr ⟨c,es,cl,seen,hI c h1,by rw[hw c h1,h2],h3,by rw[hb,h4],h5⟩⟩
 |yloop y F st=>obtain⟨ri,r,h0,h1,h2,h3,h4,h5,h6,h7⟩:=h;exact⟨ri,r,h0,by rw[hb,h1],h2,h3,h4,h5,λs=>VRel.mono hI hw _ hρ (h6 s),h7⟩
structure Stepped(G:GTab (List AV))(I K:Nat->Prop)(ρ:PMap)(w:World)(I':Nat->Prop)(ρ':PMap)(h':FHeap)(w':World):Prop where
 imm:∀c,I c->I' c
 map:∀b m,ρ b=some m->ρ' b=some m
 ext:Ext I K w w'
 rel:HRel G I' K ρ' h' w'
theorem Stepped.vrel{G I K ρ w I' ρ' h' w'}(s:Stepped G I K ρ w I' ρ' h' w'){v:AV}{c:Value}(h:VRel I w ρ v c):VRel I' w' ρ' v c:=VRel.mono s.imm (λc hc=>s.ext.keep c (.inl hc)) v s.map h
theorem Stepped.vrels{G I K ρ w I' ρ' h' w'}(s:Stepped G I K ρ w I' ρ' h' w'){v:List AV}{c:List Value}(h:VRels I w ρ v c):VRels I' w' ρ' v c:=VRels.mono s.imm (λc hc=>s.ext.keep c (.inl hc)) v s.map h
theorem Stepped.refl{G I K ρ h w}(r:HRel G I K ρ h w):Stepped G I K ρ w I ρ h w:=⟨λ_ h=>h,λ_ _ h=>h,Ext.refl _ _ _,r⟩
def SameMem(w w':World):Prop:=w'.heap=w.heap∧w'.tape=w.tape∧w'.os=w.os∧w'.output=w.output
section same
variable {I:Nat->Prop}{w w':World}
theorem SameMem.ext(s:SameMem w w')(I K:Nat->Prop):Ext I K w w':=⟨s.2.2.1,s.2.1,s.2.2.2,by rw[s.1];exact f2q _,λ_ _=>by rw[s.1]⟩
theorem HRel.same{G I K ρ h w w'}(r:HRel G I K ρ h w)(s:SameMem w w'):HRel G I K ρ h w':={
 live b o hb:=by obtain⟨m,h1,h2,h3,h4⟩:=r.live b o hb;exact⟨m,h1,h2,h3,ORel.mono o (λ_ h=>h) (λ_ _=>by rw[s.1]) (λ_ _ h=>h) (by rw[s.1]) h4⟩
 inj:=r.inj
 dom b m hb:=by rw[s.1];exact r.dom b m hb
 imm c hc:=by rw[s.1];exact r.imm c hc
 kept c hc:=by rw[s.1];exact r.kept c hc
 apart:=r.apart
 glob g cs hg:=⟨(r.glob g cs hg).1,VAt.mono (λ_ h=>h) (λ_ _=>by rw[s.1]) cs (λ_ _ h=>h) (by rw[s.1]) (r.glob g cs hg).2⟩}
theorem Stepped.same{G I K ρ h w w'}(r:HRel G I K ρ h w)(s:SameMem w w'):Stepped G I K ρ w I ρ h w':=⟨λ_ h=>h,λ_ _ h=>h,s.ext _ _,r.same s⟩
end same
theorem HRel.fewer{G I K ρ h h' w}(r:HRel G I K ρ h w)(hh:∀b o,h' b=some o->h b=some o):HRel G I K ρ h' w:={
 live b o hb:=r.live b o (hh b o hb)
 inj b b' m m' hb a6:=by
  refine r.inj b b' m m' ?_ ?_
  ·obtain⟨o,ho⟩:=f1j.1 hb;rw[hh b o ho];rfl
  ·obtain⟨o,ho⟩:=f1j.1 a6;rw[hh b' o ho];rfl
 dom:=r.dom
 imm:=r.imm
 kept:=r.kept
 apart:=r.apart
 glob:=r.glob}
/-! ### renaming -/
mutual
def ren(π:Nat->Option Nat):AV->AV
 |.ptr b i o=>match π b with|some b'=>.ptr b' i o|none=>.junk
 |.slice b off len cap=>match π b with|some b'=>.slice b' off len cap|none=>.junk
 |.map b=>match π b with|some b'=>.map b'|none=>.junk
 |.func fn fs cs=>.func fn (c0g π fs) (c0g π cs)
 |.iface t x=>.iface t (ren π x)
 |.agg cs=>.agg (c0g π cs)
 |.tuple cs=>.tuple (c0g π cs)
 |.iptr cs=>.iptr cs
 |.islice aa cap=>.islice aa cap
 |.imap ks vs bs br=>.imap ks vs bs br
 |.iset ks=>.iset ks
 |.yfn b=>match π b with|some b'=>.yfn b'|none=>.junk
 |.junk=>.junk
 |.bool b=>.bool b
 |.int k n=>.int k n
 |.str s=>.str s
 |.nilptr=>.nilptr
 |.nilslice=>.nilslice
 |.nilmap=>.nilmap
 |.nilfunc=>.nilfunc
 |.nilifc=>.nilifc
def c0g(π:Nat->Option Nat):List AV->List AV
 | []=>[]
 |v::vs=>ren π v::c0g π vs
end
theorem a7o(π:Nat->Option Nat):∀l:List AV,c0g π l=l.map (ren π)
 | []=>rfl
 |v::vs=>by simp[c0g,a7o π vs]
def a0g(π:Nat->Option Nat):AObj->AObj
 |.row k aa=>.row k (aa.map λr=>r.map (ren π))
 |.map ks vs bs br=>.map (ks.map (ren π)) (vs.map (ren π)) bs br
 |.siter s pos=>.siter s pos
 |.uset ks=>.uset ks
 |.miter ks dC dK=>.miter ks dC dK
 |.yloop y F st=>.yloop y (F.map λx=>(x.1,ren π x.2)) st
section
variable {I:Nat->Prop}{w:World}{π:Nat->Option Nat}{ρ ρ':PMap}
mutual
theorem VRel.ren(hπ:∀b b' m,π b=some b'->ρ b=some m->ρ' b'=some m):∀(v:AV) {c:Value},VRel I w ρ v c->VRel I w ρ' (Ax.ren π v) c
 |.ptr b i o,c,h=>by
  simp only[VRel]at h;obtain⟨m,hm,rfl⟩:=h;cases hb:π b with
  |none=>simp[Ax.ren,hb,VRel]
  |some b'=>simp only[Ax.ren,hb,VRel];exact⟨m,hπ b b' m hb hm,rfl⟩
 |.slice b off len cap,c,h=>by
  simp only[VRel]at h;obtain⟨a,n,rfl,h1,h2,h3⟩:=h;cases hb:π b with
  |none=>simp[Ax.ren,hb,VRel]
  |some b'=>
   simp only[Ax.ren,hb,VRel];refine⟨a,n,rfl,h1,h2,h3.imp id ?_⟩
   rintro⟨m,hm,rfl,hr⟩
   exact⟨m,hπ b b' m hb hm,rfl,hr⟩
 |.map b,c,h=>by
  simp only[VRel]at h;obtain⟨m,hm,rfl⟩:=h;cases hb:π b with
  |none=>simp[Ax.ren,hb,VRel]
  |some b'=>simp only[Ax.ren,hb,VRel];exact⟨m,hπ b b' m hb hm,rfl⟩
 |.func fn fs cs,c,h=>by simp only[VRel,Ax.ren]at h⊢;obtain⟨dj,aO,rfl,h1,h2⟩:=h;exact⟨dj,aO,rfl,VRels.ren hπ fs h1,VRels.ren hπ cs h2⟩
 |.iface t x,c,h=>by simp only[VRel,Ax.ren]at h⊢;obtain⟨x',rfl,h⟩:=h;exact⟨x',rfl,VRel.ren hπ x h⟩
 |.agg cs,c,h=>by simp only[VRel,Ax.ren]at h⊢;obtain⟨aO,rfl,h⟩:=h;exact⟨aO,rfl,VRels.ren hπ cs h⟩
 |.tuple cs,c,h=>by simp only[VRel,Ax.ren]at h⊢;obtain⟨aO,rfl,h⟩:=h;exact⟨aO,rfl,VRels.ren hπ cs h⟩
 |.iptr cs,c,h=>by simpa[VRel,Ax.ren]using h
 |.islice aa cap,c,h=>by simpa only[VRel,Ax.ren]using h
 |.imap ks vs bs br,c,h=>by simpa only[VRel,Ax.ren]using h
 |.iset ks,c,h=>by simpa only[VRel,Ax.ren]using h
 |.yfn b,c,h=>by
  simp only[VRel]at h;obtain⟨m,hm,rfl⟩:=h;cases hb:π b with
  |none=>simp[Ax.ren,hb,VRel]
  |some b'=>simp only[Ax.ren,hb,VRel];exact⟨m,hπ b b' m hb hm,rfl⟩
 |.junk,c,h=>by simp[VRel,Ax.ren]
 |.bool b,c,h=>by simpa[VRel,Ax.ren]using h
 |.int k n,c,h=>by simpa[VRel,Ax.ren]using h
 |.str s,c,h=>by simpa[VRel,Ax.ren]using h
 |.nilptr,c,h=>by simpa[VRel,Ax.ren]using h
 |.nilslice,c,h=>by simpa[VRel,Ax.ren]using h
 |.nilmap,c,h=>by simpa[VRel,Ax.ren]using h
 |.nilfunc,c,h=>by simpa[VRel,Ax.ren]using h
 |.nilifc,c,h=>by simpa[VRel,Ax.ren]using h
theorem VRels.ren(hπ:∀b b' m,π b=some b'->ρ b=some m->ρ' b'=some m):∀(vs:List AV) {cs:List Value},VRels I w ρ vs cs->VRels I w ρ' (c0g π vs) cs
 | [],cs,h=>by simpa[VRels,c0g]using h
 |v::vs,cs,h=>by simp only[VRels,c0g]at h⊢;obtain⟨c,aO,rfl,h1,h2⟩:=h;exact⟨c,aO,rfl,VRel.ren hπ v h1,VRels.ren hπ vs h2⟩
end
theorem VAt.ren(hπ:∀b b' m,π b=some b'->ρ b=some m->ρ' b'=some m):∀(vs:List AV) {b off:Nat},VAt I w ρ vs b off->VAt I w ρ' (vs.map (Ax.ren π)) b off
 | [],b,off,h=>by simp[VAt]
 |v::vs,b,off,h=>by simp only[VAt,f1a]at h⊢;obtain⟨⟨c,hc,h1⟩,h2⟩:=h;exact⟨⟨c,hc,VRel.ren hπ v h1⟩,VAt.ren hπ vs h2⟩
theorem VRows.ren{k:Nat}(hπ:∀b b' m,π b=some b'->ρ b=some m->ρ' b'=some m):∀(rs:List (List AV)) {b off:Nat},VRows I w k ρ rs b off->
 VRows I w k ρ' (rs.map λr=>r.map (Ax.ren π)) b off
 | [],b,off,h=>by simp[VRows]
 |r::rs,b,off,h=>by simp only[VRows,f1a]at h⊢;obtain⟨h0,h1,h2⟩:=h;exact⟨by simpa using h0,VAt.ren hπ r h1,VRows.ren hπ rs h2⟩
theorem c0w(π:Nat->Option Nat):∀(F:List (Nat×AV)) (s:Nat),c0x (F.map λx=>(x.1,Ax.ren π x.2)) s=Ax.ren π (c0x F s)
 | [],s=>by simp[c0x,Ax.ren]
 |(t,v)::F,s=>by simp only[f1a,c0x,c0w π F s];cases Nat.beq t s<;>rfl
theorem ORel.ren{G:GTab (List AV)}{m:Pl}(hπ:∀b b' m,π b=some b'->ρ b=some m->ρ' b'=some m)(o:AObj)(h:ORel G I w ρ m o):ORel G I w ρ' m (a0g π o):=by
 cases o with
 |row k aa=>obtain⟨h1,h2,h3,h5⟩:=h;exact⟨h1,h2,by simpa using h3,VRows.ren hπ aa h5⟩
 |map ks vs bs br=>obtain⟨es,h1,h2,h3,h4⟩:=h;exact⟨es,h1,by rw[<-a7o];exact VRels.ren hπ ks h2,by rw[<-a7o];exact VRels.ren hπ vs h3,h4⟩
 |siter s pos=>exact h
 |uset ks=>exact h
 |miter ks dC dK=>exact h
 |yloop y F st=>obtain⟨ri,r,h0,h1,h2,h3,h4,h5,h6,h7⟩:=h;refine⟨ri,r,h0,h1,h2,h3,h4,h5,λs=>?_,h7⟩;rw[c0w];exact VRel.ren hπ _ (h6 s)
end
end Go.Ax
/- AxEff: what an operation may do to the abstract heap, and that the relation follows. -/
namespace Go.Ax
inductive Eff where
 |none
 |new (o:AObj)
 |set (b:Nat)(o:AObj)
 |kill (b:Nat)(o:AObj)
def PMap.set(ρ:PMap)(n:Nat)(m:Pl):PMap:=λb=>if b=n then some m else ρ b
def FHeap.set(h:FHeap)(n:Nat)(o:Option AObj):FHeap:=λb=>if b=n then o else h b
def FHeap.eff(h:FHeap)(n:Nat):Eff->FHeap
 |.none=>h
 |.new o=>h.set n (some o)
 |.set b o=>h.set b (some o)
 |.kill b o=>(h.set b Option.none).set n (some o)
def Eff.fresh:Eff->Bool
 |.new _|.kill _ _=>true
 |_=>false
def Moves(ρ ρ':PMap)(n:Nat)(e:Eff):Prop:=(∀b,b≠n->ρ' b=ρ b)∧(e.fresh=false->ρ'=ρ)
theorem Moves.same(ρ:PMap)(n:Nat)(e:Eff):Moves ρ ρ n e:=⟨λ_ _=>rfl,λ_=>rfl⟩
theorem Moves.set(ρ:PMap)(n:Nat){e:Eff}(m:Pl)(he:e.fresh=true):Moves ρ (ρ.set n m) n e:=⟨λb hb=>by simp[PMap.set,hb],λh=>by simp[he]at h⟩
theorem PMap.set_old{ρ:PMap}{n:Nat}{m:Pl}(hn:ρ n=Option.none):∀b m',ρ b=some m'->ρ.set n m b=some m':=by
 intro b m' h;unfold PMap.set;split
 ·subst b;simp[hn]at h
 ·exact h
section
variable {G:GTab (List AV)}{I K:Nat->Prop}{ρ:PMap}{h:FHeap}{w w':World}{n:Nat}
theorem a2q(r:HRel G I K ρ h w)(_:h n=none)(hρ:ρ n=none){ob:Obj}{o:AObj}{m:Pl}
 (hw:w'.heap=w.heap.push ob)(ht:w'.tape=w.tape)(fE:w'.os=w.os)(aU:w'.output=w.output)
 (hm:m.blk=w.heap.size)(ho:ORel G I w' (ρ.set n m) m o):Stepped G I K ρ w I (ρ.set n m) (h.eff n (.new o)) w':=by
 have aG:∀c,c<w.heap.size->w'.heap[c]?=w.heap[c]?:=by intro c hc;rw[hw,f9c,f2m (by omega)]
 have aF:=PMap.set_old (m:=m) hρ;refine⟨λ_ h=>h,aF,⟨fE,ht,aU,by rw[hw];simp,?_⟩,?_⟩
 ·rintro c (hc|hc)
  ·exact aG c (r.imm c hc)
  ·exact aG c (r.kept c hc)
 ·refine⟨?_,?_,?_,?_,?_,r.apart,?_⟩
  ·intro b o' hb;simp only[FHeap.eff,FHeap.set]at hb;split at hb
   ·subst b;cases hb;refine⟨m,by simp[PMap.set],λhc=>?_,λhc=>?_,ho⟩
    ·have:=r.imm _ hc;omega
    ·have:=r.kept _ hc;omega
   ·obtain⟨m',h1,h2,h3,h4⟩:=r.live b o' hb;exact⟨m',aF b m' h1,h2,h3,ORel.mono o' (λ_ h=>h) (λc hc=>aG c (r.imm c hc)) aF (aG _ (r.dom b m' h1)) h4⟩
  ·intro b b' m1 m2 hb a6 h1 h2 he;simp only[FHeap.eff,FHeap.set,PMap.set]at hb a6 h1 h2;split at hb<;>split at a6
   ·omega
   ·rename_i nE kD;rw[f2w nE]at h1;rw[f2m kD]at h2;cases h1;have:=r.dom b' m2 h2;omega
   ·rename_i nE kD;rw[f2m nE]at h1;rw[f2w kD]at h2;cases h2;have:=r.dom b m1 h1;omega
   ·rename_i nE kD;rw[f2m nE]at h1;rw[f2m kD]at h2;exact r.inj b b' m1 m2 hb a6 h1 h2 he
  ·intro b m' hb;rw[hw];simp only[Array.size_push];simp only[PMap.set]at hb;split at hb
   ·cases hb;omega
   ·have:=r.dom b m' hb;omega
  ·intro c hc;rw[hw];simp only[Array.size_push];have:=r.imm c hc;omega
  ·intro c hc;rw[hw];simp only[Array.size_push];have:=r.kept c hc;omega
  ·intro g cs hg;obtain⟨h1,h2⟩:=r.glob g cs hg;exact⟨h1,VAt.mono (λ_ h=>h) (λc hc=>aG c (r.imm c hc)) cs (λ_ _ h=>h) (aG g (r.imm g h1)) h2⟩
theorem a2d(r:HRel G I K ρ h w){b:Nat}{o0 o:AObj}{m:Pl}(hb:h b=some o0)(hρ:ρ b=some m)
 (aT:w'.heap.size=w.heap.size)(hw:∀c,c≠m.blk->w'.heap[c]?=w.heap[c]?)(ht:w'.tape=w.tape)(fE:w'.os=w.os)(aU:w'.output=w.output)
 (ho:ORel G I w' ρ m o):Stepped G I K ρ w I ρ (h.eff n (.set b o)) w':=by
 obtain⟨m',bl,dY,gx,_⟩:=r.live b o0 hb;obtain rfl:m=m':=z9o (hρ.symm.trans bl);have da:∀c,I c->w'.heap[c]?=w.heap[c]?:=λc hc=>hw c (λe=>dY (e▸hc));refine⟨λ_ h=>h,λ_ _ h=>h,⟨fE,ht,aU,by omega,?_⟩,?_⟩
 ·rintro c (hc|hc)
  ·exact da c hc
  ·exact hw c (λe=>gx (e▸hc))
 ·refine⟨?_,?_,?_,?_,?_,r.apart,?_⟩
  ·intro b' o' a6;simp only[FHeap.eff,FHeap.set]at a6;split at a6
   ·rename_i he;cases a6;subst he;exact⟨m,hρ,dY,gx,ho⟩
   ·rename_i aw;obtain⟨m',h1,h2,h3,h4⟩:=r.live b' o' a6;refine⟨m',h1,h2,h3,ORel.mono o' (λ_ h=>h) da (λ_ _ h=>h) (hw _ ?_) h4⟩;intro e;exact aw (r.inj b' b m' m (by simp[a6]) (by simp[hb]) h1 hρ e)
  ·intro b1 b2 m1 m2 h1 h2;refine r.inj b1 b2 m1 m2 ?_ ?_
   ·simp only[FHeap.eff,FHeap.set]at h1;split at h1
    ·subst b1;simp[hb]
    ·exact h1
   ·simp only[FHeap.eff,FHeap.set]at h2;split at h2
    ·subst b2;simp[hb]
    ·exact h2
  ·intro b' m' a6;rw[aT];exact r.dom b' m' a6
  ·intro c hc;rw[aT];exact r.imm c hc
  ·intro c hc;rw[aT];exact r.kept c hc
  ·intro g cs hg;obtain⟨h1,h2⟩:=r.glob g cs hg;exact⟨h1,VAt.mono (λ_ h=>h) da cs (λ_ _ h=>h) (da g h1) h2⟩
theorem b2z(r:HRel G I K ρ h w)(hh:h n=none)(hρ:ρ n=none)(b:Nat){ob:Obj}{o:AObj}{m:Pl}
 (hw:w'.heap=w.heap.push ob)(ht:w'.tape=w.tape)(fE:w'.os=w.os)(aU:w'.output=w.output)
 (hm:m.blk=w.heap.size)(ho:ORel G I w' (ρ.set n m) m o):Stepped G I K ρ w I (ρ.set n m) (h.eff n (.kill b o)) w':=by
 have r':HRel G I K ρ (h.set b none) w:=r.fewer (by
  intro b' o' a6;simp only[FHeap.set]at a6;split at a6
  ·cases a6
  ·exact a6)
 have:=a2q (h:=h.set b none) (n:=n) (o:=o) r' (by simp only[FHeap.set];split<;>simp_all) hρ hw ht fE aU hm ho;exact this
theorem a74(r:HRel G I K ρ h w)(hh:h n=none)(hρ:ρ n=none){b:Nat}{o0 o:AObj}{mb m:Pl}(hb:h b=some o0)(hρb:ρ b=some mb)
 (hm:m.blk=mb.blk)(aT:w'.heap.size=w.heap.size)(hw:∀c,c≠mb.blk->w'.heap[c]?=w.heap[c]?)(ht:w'.tape=w.tape)(fE:w'.os=w.os)(aU:w'.output=w.output)
 (ho:ORel G I w' (ρ.set n m) m o):Stepped G I K ρ w I (ρ.set n m) (h.eff n (.kill b o)) w':=by
 obtain⟨m',bl,dY,gx,_⟩:=r.live b o0 hb;obtain rfl:mb=m':=z9o (hρb.symm.trans bl);have aF:=PMap.set_old (m:=m) hρ;have da:∀c,I c->w'.heap[c]?=w.heap[c]?:=λc hc=>hw c (λe=>dY (e▸hc));have nE:b≠n:=λe=>by subst e;simp[hh]at hb
 have ai:=r.dom b mb hρb;refine⟨λ_ h=>h,aF,⟨fE,ht,aU,by omega,?_⟩,?_⟩
 ·rintro c (hc|hc)
  ·exact da c hc
  ·exact hw c (λe=>gx (e▸hc))
 ·refine⟨?_,?_,?_,?_,?_,r.apart,?_⟩
  ·intro b' o' a6;simp only[FHeap.eff,FHeap.set]at a6;split at a6
   ·rename_i he;cases a6;subst he;exact⟨m,by simp[PMap.set],by rw[hm];exact dY,by rw[hm];exact gx,ho⟩
   ·rename_i aw;split at a6
    ·cases a6
    ·rename_i ju;obtain⟨m',h1,h2,h3,h4⟩:=r.live b' o' a6;refine⟨m',aF b' m' h1,h2,h3,ORel.mono o' (λ_ h=>h) da aF (hw _ ?_) h4⟩;intro e;exact ju (r.inj b' b m' mb (by simp[a6]) (by simp[hb]) h1 hρb e)
  ·intro b1 b2 m1 m2 cO em h1 h2 he;simp only[FHeap.eff,FHeap.set,PMap.set]at cO em h1 h2;by_cases e1:b1=n<;>by_cases e2:b2=n
   ·omega
   ·rw[f2w e1]at h1;rw[f2m e2]at h2;rw[f2m e2]at em;cases h1;split at em
    ·cases em
    ·rename_i aw;exact absurd (r.inj b2 b m2 mb em (by simp[hb]) h2 hρb (by omega)) aw
   ·rw[f2m e1]at h1;rw[f2w e2]at h2;rw[f2m e1]at cO;cases h2;split at cO
    ·cases cO
    ·rename_i aw;exact absurd (r.inj b1 b m1 mb cO (by simp[hb]) h1 hρb (by omega)) aw
   ·rw[f2m e1]at h1;rw[f2m e2]at h2;rw[f2m e1]at cO;rw[f2m e2]at em;split at cO
    ·cases cO
    ·split at em
     ·cases em
     ·exact r.inj b1 b2 m1 m2 cO em h1 h2 he
  ·intro b' m' a6;rw[aT];simp only[PMap.set]at a6;split at a6
   ·cases a6;omega
   ·exact r.dom b' m' a6
  ·intro c hc;rw[aT];exact r.imm c hc
  ·intro c hc;rw[aT];exact r.kept c hc
  ·intro g cs hg;obtain⟨h1,h2⟩:=r.glob g cs hg;exact⟨h1,VAt.mono (λ_ h=>h) da cs (λ_ _ h=>h) (da g h1) h2⟩
end
end Go.Ax
/- AxVal: lists of cells: splitting, reading, replacing. -/
namespace Go.Ax
section
variable {I I':Nat->Prop}{w w':World}{ρ ρ':PMap}
theorem VRels.length:∀{vs:List AV} {cs:List Value},VRels I w ρ vs cs->vs.length=cs.length
 | [],cs,h=>by simp[VRels]at h;simp[h]
 |v::vs,cs,h=>by simp only[VRels]at h;obtain⟨c,aO,rfl,_,h⟩:=h;simp[VRels.length h]
theorem VRels.append:∀{as bs:List AV} {xs ys:List Value},VRels I w ρ as xs->VRels I w ρ bs ys->VRels I w ρ (as++bs) (xs++ys)
 | [],bs,xs,ys,h,k=>by simp[VRels]at h;simpa[h]using k
 |v::as,bs,xs,ys,h,k=>by simp only[VRels,f2o]at h⊢;obtain⟨c,aO,rfl,h1,h2⟩:=h;exact⟨c,aO++ys,rfl,h1,VRels.append h2 k⟩
theorem VRels.get:∀{vs:List AV} {cs:List Value} (i:Nat) {v:AV},VRels I w ρ vs cs->vs[i]?=some v->∃c,cs[i]?=some c∧VRel I w ρ v c
 | [],cs,i,v,h,hv=>by simp at hv
 |x::vs,cs,i,v,h,hv=>by
  simp only[VRels]at h;obtain⟨c,aO,rfl,h1,h2⟩:=h;cases i with
  |zero=>simp at hv;subst hv;exact⟨c,by simp,h1⟩
  |succ i=>simp at hv;simpa using VRels.get i h2 hv
theorem VRels.drop:∀{vs:List AV} {cs:List Value} (i:Nat),VRels I w ρ vs cs->VRels I w ρ (vs.drop i) (cs.drop i)
 |vs,cs,0,h=>by simpa using h
 | [],cs,i+1,h=>by simp[VRels]at h⊢;simp[h]
 |x::vs,cs,i+1,h=>by simp only[VRels]at h;obtain⟨c,aO,rfl,h1,h2⟩:=h;simpa using VRels.drop i h2
theorem VRels.take:∀{vs:List AV} {cs:List Value} (i:Nat),VRels I w ρ vs cs->VRels I w ρ (vs.take i) (cs.take i)
 |vs,cs,0,h=>by simp[VRels]
 | [],cs,i+1,h=>by simp[VRels]at h⊢;simp[h]
 |x::vs,cs,i+1,h=>by simp only[VRels]at h;obtain⟨c,aO,rfl,h1,h2⟩:=h;simp only[f3c,VRels];exact⟨c,aO.take i,rfl,h1,VRels.take i h2⟩
theorem VRels.set:∀{vs:List AV} {cs:List Value} (i:Nat) {v:AV} {c:Value},VRels I w ρ vs cs->VRel I w ρ v c->VRels I w ρ (vs.set i v) (cs.set i c)
 | [],cs,i,v,c,h,hv=>by simp[VRels]at h⊢;simp[h]
 |x::vs,cs,i,v,c,h,hv=>by
  simp only[VRels]at h;obtain⟨c',aO,rfl,h1,h2⟩:=h;cases i with
  |zero=>simp only[List.set_cons_zero,VRels];exact⟨c,aO,rfl,hv,h2⟩
  |succ i=>simp only[List.set_cons_succ,VRels];exact⟨c',aO.set i c,rfl,h1,VRels.set i h2 hv⟩
def CellsAt(w:World)(cs:List Value)(b off:Nat):Prop:=∀j v,cs[j]?=some v->w.cell? ⟨b,off+j,none⟩=some v
theorem VAt.of_cells:∀{vs:List AV} {cs:List Value} {b off:Nat},CellsAt w cs b off->VRels I w ρ vs cs->VAt I w ρ vs b off
 | [],cs,b,off,_,_=>by simp[VAt]
 |v::vs,cs,b,off,hc,h=>by simp only[VRels,VAt]at h⊢;obtain⟨c,aO,rfl,h1,h2⟩:=h;refine⟨⟨c,by simpa using hc 0 c (by simp),h1⟩,VAt.of_cells (λj v hv=>?_) h2⟩;have:=hc (j+1) v (by simpa using hv);rw[show off+1+j=off+(j+1) by omega];exact this
theorem VAt.cells:∀{vs:List AV} {b off:Nat},VAt I w ρ vs b off->∃cs,CellsAt w cs b off∧VRels I w ρ vs cs
 | [],b,off,_=>⟨[],λj v hv=>by simp at hv,by simp[VRels]⟩
 |v::vs,b,off,h=>by
  simp only[VAt]at h;obtain⟨⟨c,hc,h1⟩,h2⟩:=h;obtain⟨cs,k1,k2⟩:=VAt.cells h2;refine⟨c::cs,λj v hv=>?_,by simp only[VRels];exact⟨c,cs,rfl,h1,k2⟩⟩;cases j with
  |zero=>simp at hv;subst hv;simpa using hc
  |succ j=>have:=k1 j v (by simpa using hv);rw[show off+(j+1)=off+1+j by omega];exact this
theorem VAt.append:∀{as bs:List AV} {b off:Nat},VAt I w ρ (as++bs) b off↔VAt I w ρ as b off∧VAt I w ρ bs b (off+as.length)
 | [],bs,b,off=>by simp[VAt]
 |v::as,bs,b,off=>by simp only[f2o,VAt,f1c];rw[VAt.append,and_assoc,show off+1+as.length=off+(as.length+1) by omega]
theorem VAt.drop{vs:List AV}{b off:Nat}(i:Nat)(hi:i<=vs.length)(h:VAt I w ρ vs b off):VAt I w ρ (vs.drop i) b (off+i):=by rw[<-f9j i vs,VAt.append]at h;simpa[Nat.min_eq_left hi]using h.2
theorem VAt.take{vs:List AV}{b off:Nat}(i:Nat)(h:VAt I w ρ vs b off):VAt I w ρ (vs.take i) b off:=by rw[<-f9j i vs,VAt.append]at h;exact h.1
theorem VRows.iff{k:Nat}:∀{rs:List (List AV)} {b off:Nat},VRows I w k ρ rs b off↔(∀r∈rs,r.length=k)∧VAt I w ρ rs.flatten b off
 | [],b,off=>by simp[VRows,VAt]
 |r::rs,b,off=>by
  simp only[VRows,f7a,VAt.append,f4h,forall_eq_or_imp];rw[VRows.iff];constructor
  ·rintro⟨h0,h1,h2,h3⟩;exact⟨⟨h0,h2⟩,h1,by rw[h0];exact h3⟩
  ·rintro⟨⟨h0,h2⟩,h1,h3⟩;exact⟨h0,h1,h2,by rw[h0]at h3;exact h3⟩
theorem a14{k:Nat}:∀{rs:List (List AV)},(∀r∈rs,r.length=k)->rs.flatten.length=rs.length*k
 | [],_=>by simp
 |r::rs,h=>by simp only[f7a,f2n,f1c];rw[a14 (λr hr=>h r (by simp[hr])),h r (by simp),g0h,Nat.add_comm]
theorem VRows.get{k:Nat}:∀{rs:List (List AV)} {b off:Nat} (i:Nat) {r:List AV},VRows I w k ρ rs b off->rs[i]?=some r->r.length=k∧VAt I w ρ r b (off+i*k)
 | [],b,off,i,r,h,hr=>by simp at hr
 |x::rs,b,off,i,r,h,hr=>by
  simp only[VRows]at h;obtain⟨h0,h1,h2⟩:=h;cases i with
  |zero=>simp at hr;subst hr;exact⟨h0,by simpa using h1⟩
  |succ i=>have:=VRows.get i h2 (by simpa using hr);rw[show off+(i+1)*k=off+k+i*k by rw[g0h];omega];exact this
theorem VRows.append{k:Nat}:∀{as bs:List (List AV)} {b off:Nat},VRows I w k ρ (as++bs) b off↔VRows I w k ρ as b off∧VRows I w k ρ bs b (off+as.length*k)
 | [],bs,b,off=>by simp[VRows]
 |v::as,bs,b,off=>by simp only[f2o,VRows,f1c];rw[VRows.append,show off+k+as.length*k=off+(as.length+1)*k by rw[g0h];omega];simp only[and_assoc]
theorem VRows.drop{k:Nat}{rs:List (List AV)}{b off:Nat}(i:Nat)(hi:i<=rs.length)(h:VRows I w k ρ rs b off):VRows I w k ρ (rs.drop i) b (off+i*k):=by rw[<-f9j i rs,VRows.append]at h;simpa[Nat.min_eq_left hi]using h.2
theorem VRows.take{k:Nat}{rs:List (List AV)}{b off:Nat}(i:Nat)(h:VRows I w k ρ rs b off):VRows I w k ρ (rs.take i) b off:=by rw[<-f9j i rs,VRows.append]at h;exact h.1
theorem VAt.mono_cells(hI:∀c,I c->I' c)(hw:∀c,I c->w'.heap[c]?=w.heap[c]?)(hρ:∀b m,ρ b=some m->ρ' b=some m) :
 ∀{vs:List AV} {b off:Nat},(∀j,j<vs.length->w'.cell? ⟨b,off+j,none⟩=w.cell? ⟨b,off+j,none⟩)->VAt I w ρ vs b off->VAt I' w' ρ' vs b off
 | [],b,off,_,_=>by simp[VAt]
 |v::vs,b,off,hc,h=>by simp only[VAt]at h⊢;obtain⟨⟨c,cW,h1⟩,h2⟩:=h;refine⟨⟨c,by rw[<-cW];simpa using hc 0 (by simp),VRel.mono hI hw v hρ h1⟩,VAt.mono_cells hI hw hρ (λj hj=>?_) h2⟩;rw[show off+1+j=off+(j+1) by omega];exact hc (j+1) (by simp;omega)
theorem VRows.mono_cells{k:Nat}(hI:∀c,I c->I' c)(hw:∀c,I c->w'.heap[c]?=w.heap[c]?)(hρ:∀b m,ρ b=some m->ρ' b=some m)
 {rs:List (List AV)}{b off:Nat}(hc:∀j,j<rs.length*k->w'.cell? ⟨b,off+j,none⟩=w.cell? ⟨b,off+j,none⟩)(h:VRows I w k ρ rs b off):VRows I' w' k ρ' rs b off:=by
 rw[VRows.iff]at h⊢;exact⟨h.1,VAt.mono_cells hI hw hρ (by rw[a14 h.1];exact hc) h.2⟩
theorem a7y{b o:Nat}{cI:Array Value}{e:TypeId}{fz:Nat×Nat}(h:w.heap[b]?=some (.cells cI e fz)):w.cell? ⟨b,o,none⟩=cI[o]?:=by simp[World.cell?,h]
theorem CellsAt.of_heap{b off:Nat}{cI:Array Value}{e:TypeId}{fz:Nat×Nat}{cs:List Value}(h:w.heap[b]?=some (.cells cI e fz))
 (hc:∀j v,cs[j]?=some v->cI[off+j]?=some v):CellsAt w cs b off:=by
 intro j v hv;rw[a7y h];exact hc j v hv
theorem VRels.noRef_any{vs:List AV}{cs:List Value}(h:VRels I w noP vs cs):VRels I w ρ vs cs:=VRels.mono (λ_ h=>h) (λ_ _=>rfl) vs (λ_ _ h=>by simp[noP]at h) h
theorem VRel.noRef_any{v:AV}{c:Value}(h:VRel I w noP v c):VRel I w ρ v c:=VRel.mono (λ_ h=>h) (λ_ _=>rfl) v (λ_ _ h=>by simp[noP]at h) h
theorem VAt.noRef_any{vs:List AV}{b off:Nat}(h:VAt I w noP vs b off):VAt I w ρ vs b off:=VAt.mono (λ_ h=>h) (λ_ _=>rfl) vs (λ_ _ h=>by simp[noP]at h) rfl h
end
end Go.Ax
/- AxEnv: the tables of a program that the evaluator d64; frames; operands. -/
namespace Go.Ax
structure FInfo where
 code:Code
 ntmps:Nat
 results:List ResultVar
abbrev a03:=List (Option AObj)
structure Env where
 P:Program
 und:TypeId->Option TypeDesc
 sz:TypeId->Nat
 bytes:TypeId->Nat
 zero:TypeId->Option (List AV)
 eqok:TypeId->Bool
 G:GTab (List AV)
 fn:FuncId->Option FInfo
 keep:FuncId->Nat->List Nat
 thaw:FuncId->Bool
 ro:FuncId->Bool
 ext:FuncId->Bool
 prim:FuncId->List AV->Option (AV×a03):=λ_ _=>none
 zf:FuncId->Bool:=λ_=>false
 zn:FuncId->Nat:=λ_=>0
 zj:FuncId->Nat:=λ_=>0
 raw:FuncId->Bool:=λ_=>false
abbrev yId:FuncId:=999999999
def a2m:TypeDesc->Bool
 |.struct _|.array _ _=>true
 |_=>false
structure EnvOk(E:Env):Prop where
 und:∀t d,E.und t=some d->E.P.underlying t=some d∧∃i,E.P.info? t=some i∧i.size=E.sz t∧i.bytes=E.bytes t
 zero:∀t cs,E.zero t=some cs->(∃d,E.und t=some d)∧∃i z,E.P.info? t=some i∧i.zero=some z∧cs.length=E.sz t∧
  ∀I w,VRels I w noP cs z.cells.toList
 zshape:∀t d i z,E.und t=some d->E.P.info? t=some i->i.zero=some z->(a2m d=true->∃a,z = .agg a)∧(a2m d=false->z.cells = #[z])
 eqok:∀t,E.eqok t=true->E.P.eqGuardType E.P.depth t=false∧E.P.stoodInHeld t=false∧(∃i,E.P.info? t=some i∧i.comparable=true)∧
  ∀fs,E.und t=some (.struct fs)->∀f∈fs.toList,f.name≠ "_"
 fn:∀f i,E.fn f=some i->∃fn,E.P.funcs[f]?=some fn∧fn.body=some i.code∧fn.ntmps=i.ntmps∧fn.results.toList=i.results∧(fn.name == "runtime.NumGoroutine")=false
 ext:∀f,E.ext f=true->(E.fn f).isSome=false->∃fn,E.P.funcs[f]?=some fn∧fn.body=none∧(fn.name == "runtime.NumGoroutine")=false∧Extern.findNext fn=none∧Extern.find fn=some Extern.BytealgIndexByte.indexByte
 mixed:E.P.follows .mixedOrders=true
 yid:E.fn yId=none
section
variable {E:Env}(ok:EnvOk E){t:TypeId}{d:TypeDesc}(w:World)
include ok
theorem a0c(h:E.und t=some d):(underlying t).run E.P w = .ok d w:=run_underlying (ok.und t d h).1 w
theorem b39(h:E.und t=some d):∃i,(typeInfo t).run E.P w = .ok i w∧i.size=E.sz t∧i.bytes=E.bytes t:=by obtain⟨_,i,hi,h1,h2⟩:=ok.und t d h;exact⟨i,by simp[typeInfo,hi],h1,h2⟩
theorem a3a(h:E.und t=some d):(sizeOf t).run E.P w = .ok (E.sz t) w:=by obtain⟨i,hi,h1,_⟩:=b39 ok w h;simp[sizeOf,hi,h1]
theorem b42(h:E.und t=some d):(isAgg t).run E.P w = .ok (a2m d) w:=by unfold isAgg;simp only[Sem.run_bind,a0c ok w h,Result.andThen_ok];cases d<;>rfl
theorem a7m{cs:List AV}(h:E.zero t=some cs):∃z,(zeroValue t).run E.P w = .ok z w∧cs.length=E.sz t∧∀I w',VRels I w' noP cs z.cells.toList:=by obtain⟨_,i,z,hi,hz,h1,h2⟩:=ok.zero t cs h;exact⟨z,by simp[zeroValue,typeInfo,hi,hz],h1,h2⟩
end
/-! ### frames -/
abbrev Frm:=List (Nat×AV)
def a35:Frm->Nat->AV
 | [],_=>.junk
 |(s,v)::r,t=>bif Nat.beq s t then v else a35 r t
theorem d4v(s t:Nat):Nat.beq s t=(s==t):=by
 by_cases h:s=t
 ·subst h;simp
 ·rw[f6o.2 h];cases hb:Nat.beq s t with
  |false=>rfl
  |true=>exact absurd (f7o hb) h
def a42(F:Frm)(d:Option Nat)(v:AV):Frm:=
 match d with
 |some s=>(s,v)::F
 |none=>F
def FRel(I:Nat->Prop)(w:World)(ρ:PMap)(N:Nat)(F:Frm)(tmps:Array Value):Prop:=tmps.size=N∧∀s,VRel I w ρ (a35 F s) (tmps.getD s undef)
def a47:Value->AV
 |.bool b=>.bool b
 |.int k n=>.int k n
 |.string s=>.str s.data.toList
 |.pointer a=>match a with|none=>.nilptr|some _=>.junk
 |.slice a l c=>match a,l,c with|none,0,0=>.nilslice|_,_,_=>.junk
 |.map r=>match r with|none=>.nilmap|some _=>.junk
 |.nilFunc=>.nilfunc
 |.nilIface=>.nilifc
 |.tuple vs=>match vs.toList with|[]=>.tuple []|_=>.junk
 |_=>.junk
def c6j:Value->AV
 |.agg cs=>.agg (cs.toList.map a47)
 |v=>a47 v
def opv(E:Env)(F:Frm):Operand->AV
 |.tmp t=>a35 F t
 |.const v=>c6j v
 |.global g=>match E.G g with|some cs=>.iptr cs|none=>.junk
 |.func f=>.func (.func f) [] []
section
variable {I:Nat->Prop}{w:World}{ρ:PMap}
theorem b2t(v:Value):VRel I w ρ (a47 v) v:=by
 cases v with
 |pointer a=>cases a<;>simp[a47,VRel]
 |slice a l c=>cases a<;>cases l<;>cases c<;>simp[a47,VRel]
 |map a=>cases a<;>simp[a47,VRel]
 |tuple vs=>
  simp only[a47];split
  ·rename_i h;simp only[VRel];exact⟨vs,rfl,by simp[VRels,h]⟩
  ·simp[VRel]
 |_=>simp[a47,VRel]
theorem a7w:∀l:List Value,VRels I w ρ (l.map a47) l
 | []=>by simp[VRels]
 |v::l=>by simp only[f1a,VRels];exact⟨v,l,rfl,b2t v,a7w l⟩
theorem c2h(v:Value):VRel I w ρ (c6j v) v:=by
 unfold c6j;split
 ·rename_i cs;simp only[VRel];exact⟨cs,rfl,a7w _⟩
 ·exact b2t v
theorem b4j{E:Env}{K:Nat->Prop}{h:FHeap}{N:Nat}{F:Frm}{a:Act}(r:HRel E.G I K ρ h w)(hF:FRel I w ρ N F a.tmps)(x:Operand) :
 VRel I w ρ (opv E F x) (a.eval x):=by
 cases x with
 |tmp t=>exact hF.2 t
 |const v=>exact c2h v
 |global g=>
  simp only[opv,Act.eval];cases hg:E.G g with
  |none=>simp[VRel]
  |some cs=>obtain⟨h1,h2⟩:=r.glob g cs hg;simp only[VRel];exact⟨g,0,rfl,h1,h2⟩
 |func f=>simp only[opv,Act.eval,VRel];exact⟨#[],#[],rfl,by simp[VRels],by simp[VRels]⟩
theorem a8v(F:Frm)(d s:Nat)(v:AV):a35 (a42 F (some d) v) s=if d=s then v else a35 F s:=by
 simp only[a42,a35,d4v];by_cases h:d=s
 ·simp[h]
 ·simp[h,f6o.2 h]
theorem FRel.set{N:Nat}{F:Frm}{a:Act}{d:Option Nat}{v:AV}{c:Value}(hF:FRel I w ρ N F a.tmps)(hd:∀s,d=some s->s<N)(hv:VRel I w ρ v c) :
 FRel I w ρ N (a42 F d v) (a.put d c).tmps:=by
 cases d with
 |none=>exact hF
 |some d=>
  have ai:=hd d rfl;refine⟨by simp[Act.put,hF.1],λs=>?_⟩;rw[a8v];simp only[Act.put,f4u,f5a,hF.1];split
  ·subst s;simpa[ai]using hv
  ·have:=hF.2 s;simpa[f4u]using this
theorem FRel.mono{I':Nat->Prop}{w':World}{ρ':PMap}{N:Nat}{F:Frm}{t:Array Value}(hF:FRel I w ρ N F t)
 (hv:∀(v:AV) (c:Value),VRel I w ρ v c->VRel I' w' ρ' v c):FRel I' w' ρ' N F t:=⟨hF.1,λs=>hv _ _ (hF.2 s)⟩
end
def AV.cells:AV->List AV
 |.agg cs=>cs
 |v=>[v]
def AV.storable:AV->Bool
 |.junk|.agg _|.tuple _=>false
 |_=>true
section
variable {I:Nat->Prop}{w:World}{ρ:PMap}
theorem VRel.storable{v:AV}{c:Value}(h:VRel I w ρ v c)(hs:v.storable=true):c.oneCell'=true:=by
 cases v<;>simp[AV.storable]at hs<;>simp only[VRel]at h
 all_goals first
  |(subst h;rfl)
  |(obtain⟨_,rfl,_⟩:=h;rfl)
  |(obtain⟨_,_,rfl⟩:=h;rfl)
  |(obtain⟨_,_,rfl,_⟩:=h;rfl)
  |(obtain⟨_,_,_,rfl,_⟩:=h;rfl)
theorem VRel.cells{v:AV}{c:Value}(h:VRel I w ρ v c)(hj:v≠ .junk):VRels I w ρ v.cells c.cells.toList:=by
 cases v
 case junk=>exact absurd rfl hj
 case agg cs=>simp only[VRel]at h;obtain⟨aO,rfl,h⟩:=h;exact h
 all_goals
  have hc:c.cells = #[c]:=by
   simp only[VRel]at h
   first
    |(subst h;rfl)
    |(obtain⟨_,rfl,_⟩:=h;rfl)
    |(obtain⟨_,_,rfl⟩:=h;rfl)
    |(obtain⟨_,_,rfl,_⟩:=h;rfl)
    |(obtain⟨_,_,_,rfl,_⟩:=h;rfl)
  rw[hc];simp only[AV.cells,VRels];exact⟨c,[],rfl,h,rfl⟩
theorem VRels.storable:∀{vs:List AV} {cs:List Value},VRels I w ρ vs cs->vs.all AV.storable=true->∀c∈cs,c.oneCell'=true
 | [],cs,h,_=>by simp[VRels]at h;simp[h]
 |v::vs,cs,h,hs=>by
  simp only[VRels]at h;obtain⟨c,aO,rfl,h1,h2⟩:=h;simp only[List.all_cons,f1d]at hs;intro x hx;simp only[f4h]at hx;rcases hx with rfl|hx
  ·exact VRel.storable h1 hs.1
  ·exact VRels.storable h2 hs.2 x hx
end
end Go.Ax
/- AxMem: loads, stores, new variables, rows and maps, addresses: what they do to abstract values, and that the model's operations do just that. -/
namespace Go.Ax
def Val(E:Env)(I K:Nat->Prop)(ρ:PMap)(h:FHeap)(n:Nat)(w:World)(s:Sem Value)(v:AV)(e:Eff):Prop:=∃c w' ρ',s.run E.P w = .ok c w'∧Stepped E.G I K ρ w I ρ' (h.eff n e) w'∧VRel I w' ρ' v c∧Moves ρ ρ' n e
def e85(E:Env)(I K:Nat->Prop)(ρ:PMap)(h:FHeap)(n:Nat)(w:World)(s:Sem Unit)(e:Eff):Prop:=∃w' ρ',s.run E.P w = .ok () w'∧Stepped E.G I K ρ w I ρ' (h.eff n e) w'∧Moves ρ ρ' n e
section
variable {E:Env}{I K:Nat->Prop}{ρ:PMap}{h:FHeap}{n:Nat}{w:World}
theorem Val.quiet(r:HRel E.G I K ρ h w){s:Sem Value}{v:AV}{c:Value}{w':World}(hs:s.run E.P w = .ok c w')(hw:SameMem w w')(hv:VRel I w ρ v c) :
 Val E I K ρ h n w s v .none:=
 ⟨c,w',ρ,hs,Stepped.same r hw,VRel.mono (λ_ h=>h) (λ_ _=>by rw[hw.1]) v (λ_ _ h=>h) hv,Moves.same _ _ _⟩
theorem Val.here(r:HRel E.G I K ρ h w){s:Sem Value}{v:AV}{c:Value}(hs:s.run E.P w = .ok c w)(hv:VRel I w ρ v c):Val E I K ρ h n w s v .none:=Val.quiet r hs ⟨rfl,rfl,rfl,rfl⟩ hv
/-! ### loads -/
def a2r(E:Env)(t:TypeId)(cs:List AV):Option AV:=
 bif cs.length==E.sz t then
  match E.und t with
  |some d=>bif a2m d then some (.agg cs)else cs.head?
  |none=>none
 else none
def a6q(E:Env)(h:FHeap)(t:TypeId):AV->Option AV
 |.ptr b i o=>match h b with
  |some (.row _ aa)=>match aa[i]? with
   |some r=>a2r E t ((r.drop o).take (E.sz t))
   |none=>none
  |_=>none
 |.iptr cs=>a2r E t (cs.take (E.sz t))
 |_=>none
theorem a7n(ok:EnvOk E){t:TypeId}{cs:List AV}{v:AV}{b off:Nat}{ρ:PMap}(hv:a2r E t cs=some v)(hc:VAt I w ρ cs b off) :
 ∃c,(loadVar t ⟨b,off,none⟩).run E.P w = .ok c w∧VRel I w ρ v c:=by
 unfold a2r at hv;rw[cond_eq_ite]at hv;split at hv
 case isFalse=>cases hv
 rename_i hl;have hl:cs.length=E.sz t:=by simpa using hl
 cases hd:E.und t with
 |none=>simp[hd]at hv
 |some d=>
  simp only[hd]at hv;obtain⟨cv,h1,h2⟩:=VAt.cells hc;have ak:cv.length=E.sz t:=by rw[<-hl];exact(VRels.length h2).symm
  have sB:∀j:Nat,(⟨b,off,none⟩:Addr).add j=⟨b,off+j,none⟩:=by intro j;unfold Addr.add;split<;>simp_all
  unfold loadVar;simp only[Sem.run_bind,b42 ok w hd,Result.andThen_ok,Sem.run_ite];cases eo:a2m d with
  |true=>simp only[eo,f2v,Option.some.injEq]at hv;subst hv;have:=run_loadCells_list (P:=E.P) w ⟨b,off,none⟩ cv (λj v hj=>by rw[sB];exact h1 j v hj);rw[ak]at this;refine⟨.agg cv.toArray,?_,by simp only[VRel];exact⟨cv.toArray,rfl,by simpa using h2⟩⟩;simp[a3a ok w hd,this]
  |false=>
   simp only[eo,f4i]at hv;cases cs with
   |nil=>simp at hv
   |cons x cs=>simp at hv;subst hv;simp only[VRels]at h2;obtain⟨c,aO,rfl,h3,_⟩:=h2;have:=h1 0 c (by simp);refine⟨c,?_,h3⟩;simp at this;simp[this]
theorem d8d(ok:EnvOk E)(r:HRel E.G I K ρ h w){t:TypeId}{p v:AV}{c:Value}(hl:a6q E h t p=some v)(hp:VRel I w ρ p c) :
 Val E I K ρ h n w (Instr.loadAt t c) v .none:=by
 cases p with
 |ptr b i o=>
  simp only[a6q]at hl;cases hb:h b with
  |none=>simp[hb]at hl
  |some ob=>
   cases ob with
   |row k aa=>
    simp only[hb]at hl;cases hr:aa[i]? with
    |none=>simp[hr]at hl
    |some rw'=>
     simp only[hr]at hl;obtain⟨m,hm,_,_,ho⟩:=r.live b _ hb;obtain⟨hk,hk0,_,aA⟩:=ho;obtain⟨ak,bO⟩:=VRows.get i aA hr;simp only[VRel]at hp;obtain⟨m',bl,rfl⟩:=hp;obtain rfl:m=m':=z9o (hm.symm.trans bl);by_cases cj:o<=rw'.length
     ·have kE:VAt I w ρ ((rw'.drop o).take (E.sz t)) m.blk (m.off+i*m.k+o):=by
       rw[hk];exact VAt.take _ (VAt.drop o cj bO)
      obtain⟨c,hc,hv⟩:=a7n ok hl kE;exact Val.here r (by simp[Instr.loadAt,Instr.sureAddr,hc]) hv
     ·have:rw'.drop o=[]:=f9a (by omega);rw[this]at hl;unfold a2r at hl;have hd:∀d,E.und t=some d->True:=λ_ _=>trivial;simp only[f6x,f1h]at hl;rw[cond_eq_ite]at hl;split at hl
      ·rename_i h0;cases hd:E.und t with
       |none=>simp[hd]at hl
       |some d=>
        simp only[hd]at hl;have h0:E.sz t=0:=(show 0=E.sz t by simpa using h0).symm;cases eo:a2m d with
        |true=>simp[eo]at hl;subst hl;refine Val.here (c:=.agg #[]) r ?_ (by simp only[VRel];exact⟨#[],rfl,by simp[VRels]⟩);simp[Instr.loadAt,Instr.sureAddr,loadVar,b42 ok w hd,eo,a3a ok w hd,h0,loadCells,loadCellsFrom]
        |false=>simp[eo]at hl
      ·cases hl
   |map ks vs bs cl=>simp[hb]at hl
   |siter s pos=>simp[hb]at hl
   |uset ks=>simp[hb]at hl
   |miter ks dC dK=>simp[hb]at hl
   |yloop y Fy st=>simp[hb]at hl
 |iptr cs=>simp only[a6q]at hl;simp only[VRel]at hp;obtain⟨b,off,rfl,hI,bO⟩:=hp;obtain⟨c,hc,hv⟩:=a7n ok hl (VAt.take _ bO);exact Val.here r (by simp[Instr.loadAt,Instr.sureAddr,hc]) (VRel.noRef_any hv)
 |_=>simp[a6q]at hl
/-! ### stores -/
def splice(r:List AV)(o:Nat)(cs:List AV):List AV:=r.take o++cs++r.drop (o+cs.length)
def a89(E:Env)(h:FHeap)(t:TypeId)(p x:AV):Option Eff:=
 match p with
 |.ptr b i o=>match h b with
  |some (.row k aa)=>match aa[i]? with
   |some r=>bif x.cells.length==E.sz t&&(E.und t).isSome&&Nat.ble (o+x.cells.length) r.length&&x.cells.all AV.storable
    then some (.set b (.row k (aa.set i (splice r o x.cells))))else none
   |none=>none
  |_=>none
 |_=>none
theorem VRows.splice{k:Nat}{aa:List (List AV)}{blk off i o:Nat}{r cs:List AV}{w':World}(da:∀c,I c->w'.heap[c]?=w.heap[c]?)
 (aA:VRows I w k ρ aa blk off)(hr:aa[i]?=some r)(ho:o+cs.length<=k)
 (gi:∀x,(x<off+i*k+o∨off+i*k+o+cs.length<=x)->w'.cell? ⟨blk,x,none⟩=w.cell? ⟨blk,x,none⟩)
 (aX:VAt I w' ρ cs blk (off+i*k+o)):VRows I w' k ρ (aa.set i (Ax.splice r o cs)) blk off:=by
 have hi:i<aa.length:=(f1i.1 hr).1;have m6:aa=aa.take i++r::aa.drop (i+1):=by
  conv=>lhs;rw[<-f9j i aa]
  congr 1
  rw[List.drop_eq_getElem_cons hi]
  congr 1
  exact(f1i.1 hr).2
 have aF:aa.set i (Ax.splice r o cs)=aa.take i++Ax.splice r o cs::aa.drop (i+1):=by rw[List.set_eq_take_append_cons_drop,f2w hi]
 rw[aF];rw[m6]at aA;rw[VRows.append]at aA⊢;obtain⟨h1,h2⟩:=aA;have ti:(aa.take i).length=i:=by simp;omega
 simp only[VRows,ti]at h2⊢;obtain⟨h3,h4,h5⟩:=h2;have mono:=λ(vs:List AV) (b off:Nat) hc (hh:VAt I w ρ vs b off)=>VAt.mono_cells (I':=I) (w':=w') (ρ':=ρ) (λ_ h=>h) da (λ_ _ h=>h) hc hh;refine⟨?_,?_,?_,?_⟩
 ·refine VRows.mono_cells (λ_ h=>h) da (λ_ _ h=>h) (λj hj=>gi _ (.inl ?_)) h1;rw[ti]at hj;omega
 ·unfold Ax.splice;simp;omega
 ·unfold Ax.splice;rw[VAt.append,VAt.append];have mX:(r.take o).length=o:=by simp;omega
  refine⟨⟨?_,by rw[mX];exact aX⟩,?_⟩
  ·exact mono _ _ _ (λj hj=>gi _ (.inl (by rw[mX]at hj;omega))) (VAt.take o h4)
  ·have:=VAt.drop (o+cs.length) (by omega) h4;rw[f2n,mX,show off+i*k+(o+cs.length)=off+i*k+o+cs.length by omega];rw[show off+i*k+(o+cs.length)=off+i*k+o+cs.length by omega]at this;exact mono _ _ _ (λj hj=>gi _ (.inr (by omega))) this
 ·refine VRows.mono_cells (λ_ h=>h) da (λ_ _ h=>h) (λj hj=>gi _ (.inr (by omega))) h5
theorem b3t{w:World}{blk o:Nat}{cI:Array Value}{e:TypeId}(cv:List Value)(hb:w.heap[blk]?=some (.cells cI e (0,0)))(cG:o+cv.length<=cI.size)
 (rz:∀c∈cv,c.oneCell'=true)(P:Program) :
 ∃w',(storeCells ⟨blk,o,none⟩ cv).run P w = .ok () w'∧(∃dU,w'.heap[blk]?=some (.cells dU e (0,0))∧dU.size=cI.size)∧
  (∀c,c≠blk->w'.heap[c]?=w.heap[c]?)∧w'.heap.size=w.heap.size∧w'.tape=w.tape∧w'.os=w.os∧w'.output=w.output∧
  CellsAt w' cv blk o∧(∀x,(x<o∨o+cv.length<=x)->w'.cell? ⟨blk,x,none⟩=w.cell? ⟨blk,x,none⟩):=by
 refine⟨_,run_storeCells_at (P:=P) blk o e cv 0 cI w hb (by omega) rz,?_⟩;simp only[f8z];generalize aX:(cI.toList.take o++cv++cI.toList.drop (o+cv.length)).toArray=dU;have cj:dU.size=cI.size:=by subst aX;simp;omega
 have hh:=setRow_heap w blk cI dU e (0,0) hb;have aM:∀x,dU[x]?=if x<o then cI[x]? else if x<o+cv.length then cv[x-o]? else cI[x]?:=by
  intro x;subst aX;have mX:(cI.toList.take o).length=o:=by simp;omega
  have jZ:(cI.toList.take o++cv).length=o+cv.length:=by simp;omega
  rw[f7f];by_cases h1:x<o
  ·rw[e12,f2l (by rw[mX];omega)];simp[h1]
  ·by_cases h2:x<o+cv.length
   ·rw[f2l (by rw[jZ];omega),f2r (by rw[mX];omega),mX];simp[h1,h2]
   ·rw[f2r (by rw[jZ];omega),jZ];simp only[List.getElem?_drop,f2m h1,f2m h2];rw[show o+cv.length+(x-(o+cv.length))=x by omega];simp
 refine⟨⟨dU,hh,cj⟩,λc hc=>setRow_other w blk c dU hc,setRow_size w blk dU,rfl,rfl,rfl,?_,?_⟩
 ·refine CellsAt.of_heap hh (λj v hj=>?_);have bg:j<cv.length:=(f1i.1 hj).1;rw[aM,f2m (by omega),f2w (by omega),show o+j-o=j by omega];exact hj
 ·intro x hx;rw[a7y hh,a7y hb,aM];rcases hx with hx|hx
  ·rw[f2w hx]
  ·rw[f2m (by omega),f2m (by omega)]
theorem d44(ok:EnvOk E)(r:HRel E.G I K ρ h w){t:TypeId}{p x:AV}{e:Eff}{c cx:Value}(hl:a89 E h t p x=some e)(hp:VRel I w ρ p c)(hx:VRel I w ρ x cx) :
 e85 E I K ρ h n w (Instr.storeAt t c cx) e:=by
 cases p with
 |ptr b i o=>
  simp only[a89]at hl;cases hb:h b with
  |none=>simp[hb]at hl
  |some ob=>
   cases ob with
   |row k aa=>
    simp only[hb]at hl;cases hr:aa[i]? with
    |none=>simp[hr]at hl
    |some rr=>
     simp only[hr]at hl;rw[cond_eq_ite]at hl;split at hl
     case isFalse=>cases hl
     rename_i hc;simp only[f1d,f7u,f7k]at hc;obtain⟨⟨⟨dc,eg⟩,pV⟩,tP⟩:=hc;cases hl;obtain⟨d,hd⟩:=f1j.1 eg;obtain⟨m,hm,dY,_,ho⟩:=r.live b _ hb;obtain⟨hk,hk0,⟨cI,el,fy,bc,cG⟩,aA⟩:=ho;obtain⟨ak,bO⟩:=VRows.get i aA hr;simp only[VRel]at hp;obtain⟨m',bl,rfl⟩:=hp;obtain rfl:m=m':=z9o (hm.symm.trans bl);have hj:x≠ .junk:=by rintro rfl;simp[AV.cells,AV.storable]at tP
     have cL:=VRel.cells hx hj;have ot:=VRels.length cL;have hi:i<aa.length:=(f1i.1 hr).1;have im:i*k+k<=aa.length*k:=by rw[<-g0h];exact f7j k hi
     obtain⟨w',ae,⟨dU,a6,jm⟩,bL,cj,ht,fE,aU,aX,cZ⟩:=b3t (w:=w) (blk:=m.blk) (o:=m.off+i*k+o) cx.cells.toList fy
      (by rw[<-ot];omega) (VRels.storable cL tP) E.P
     have da:∀c,I c->w'.heap[c]?=w.heap[c]?:=λc hc=>bL c (λe=>dY (e▸hc));refine⟨w',ρ,?_,?_,Moves.same _ _ _⟩
     ·simp only[Instr.storeAt,Instr.sureAddr,storeVar,Sem.run_bind,Sem.run_pure,Result.andThen_ok,a3a ok w hd];have re:cx.cells.size=E.sz t:=by rw[<-dc,ot];simp
      simp only[re,ne_eq,not_true_eq_false,f9d,hk];simpa using ae
     ·refine a2d r hb hm cj bL ht fE aU ?_;refine⟨hk,hk0,⟨dU,el,a6,by omega,by simp only[f4q];omega⟩,?_⟩;refine VRows.splice da aA hr (by rw[ak]at pV;exact pV) (λx hx=>cZ x (by rw[<-ot];exact hx)) ?_;exact VAt.of_cells aX (VRels.mono (λ_ h=>h) da _ (λ_ _ h=>h) cL)
   |map ks vs bs cl=>simp[hb]at hl
   |siter s pos=>simp[hb]at hl
   |uset ks=>simp[hb]at hl
   |miter ks dC dK=>simp[hb]at hl
   |yloop y Fy st=>simp[hb]at hl
 |_=>simp[a89]at hl
/-! ### new blocks -/
theorem b0w(r:HRel E.G I K ρ h w)(hn:h n=none)(hρ:ρ n=none){el:TypeId}{k:Nat}(hk:0<k){aa:List (List AV)}{cells:Array Value}
 (ak:∀x∈aa,x.length=k)(hv:VRels I w ρ aa.flatten cells.toList){s:Sem Value}{v:AV}{mk:Addr->Value}{w0:World}(cA:SameMem w w0)
 (hs:s.run E.P w = .ok (mk ⟨w.heap.size,0,none⟩) { w0 with heap:=w0.heap.push (.cells cells el) })
 (kT:∀w' ρ',ρ' n=some ⟨w.heap.size,0,k,cells.size⟩->VRel I w' ρ' v (mk ⟨w.heap.size,0,none⟩)) :
 Val E I K ρ h n w s v (.new (.row k aa)):=by
 have aF:=PMap.set_old (m:=⟨w.heap.size,0,k,cells.size⟩) hρ;have aG:∀c,I c->({ w0 with heap:=w0.heap.push (.cells cells el) }:World).heap[c]?=w.heap[c]?:=by intro c hc;have:=r.imm c hc;show(w0.heap.push _)[c]?=_;rw[cA.1,f9c,f2m (by omega)]
 have aX:({ w0 with heap:=w0.heap.push (.cells cells el) }:World).heap[w.heap.size]?=some (.cells cells el (0,0)):=by show(w0.heap.push _)[_]?=_;rw[cA.1];simp
 refine⟨_,_,ρ.set n ⟨w.heap.size,0,k,cells.size⟩,hs,?_,kT _ _ (by simp[PMap.set]),Moves.set _ _ _ rfl⟩;refine a2q (ob:=.cells cells el) r hn hρ (by show w0.heap.push _=_;rw[cA.1]) cA.2.1 cA.2.2.1 cA.2.2.2 rfl ?_;refine⟨rfl,hk,⟨cells,el,aX,rfl,?_⟩,?_⟩
 ·have:=VRels.length hv;rw[a14 ak]at this;simp at this;simp;omega
 ·rw[VRows.iff];refine⟨ak,VAt.of_cells (cs:=cells.toList) (CellsAt.of_heap aX (λj v hj=>by simpa using hj)) ?_⟩;exact VRels.mono (λ_ h=>h) aG _ aF hv
theorem a4h(el:TypeId)(cells:Array Value)(w:World):(newRow el cells).run E.P w = .ok ⟨w.heap.size,0,none⟩ { w with heap:=w.heap.push (.cells cells el) }:=by simp[newRow]
def e37(E:Env)(n:Nat)(t:TypeId):Option (AV×Eff):=
 match E.zero t with
 |some z=>bif Nat.blt 0 z.length then some (.ptr n 0 0,.new (.row z.length [z]))else none
 |none=>none
theorem e36(ok:EnvOk E)(r:HRel E.G I K ρ h w)(hn:h n=none)(hρ:ρ n=none){t:TypeId}{v:AV}{e:Eff}(ha:e37 E n t=some (v,e))(old:Value) :
 Val E I K ρ h n w (Instr.alloc t true old) v e:=by
 unfold e37 at ha;cases hz:E.zero t with
 |none=>simp[hz]at ha
 |some z=>
  simp only[hz]at ha;rw[cond_eq_ite]at ha;split at ha
  case isFalse=>cases ha
  rename_i iI;cases ha;obtain⟨zv,e9,hl,bJ⟩:=a7m ok w hz;refine b0w (el:=t) (cells:=zv.cells) (mk:=λa=>.pointer (some a)) r hn hρ (by simpa[f4o]using iI) (by simp) (by simpa using VRels.noRef_any (bJ I w)) ⟨rfl,rfl,rfl,rfl⟩ ?_ ?_
  ·simp[Instr.alloc,e9,newVar,a4h]
  ·intro w' ρ' h';simp only[VRel];exact⟨_,h',by simp⟩
def e3j(n:Nat)(x:AV):Option (AV×Eff):=
 match x with
 |.junk=>none
 |x=>bif Nat.blt 0 x.cells.length then some (.ptr n 0 0,.new (.row x.cells.length [x.cells]))else none
theorem e3i(r:HRel E.G I K ρ h w)(hn:h n=none)(hρ:ρ n=none){t:TypeId}{x v:AV}{c:Value}{e:Eff}(ha:e3j n x=some (v,e))(hx:VRel I w ρ x c) :
 Val E I K ρ h n w (Instr.box t c) v e:=by
 have hj:x≠ .junk:=by rintro rfl;simp[e3j]at ha
 have qH:(bif Nat.blt 0 x.cells.length then some (AV.ptr n 0 0,Eff.new (.row x.cells.length [x.cells]))else none)=some (v,e):=by cases x<;>first|exact absurd rfl hj|exact ha
 rw[cond_eq_ite]at qH;split at qH
 case isFalse=>cases qH
 rename_i iI;cases qH;refine b0w (el:=t) (cells:=c.cells) (mk:=λa=>.pointer (some a)) r hn hρ (by simpa[f4o]using iI) (by simp) (by simpa using VRel.cells hx hj) ⟨rfl,rfl,rfl,rfl⟩ ?_ ?_
 ·simp[Instr.box,newVar,a4h]
 ·intro w' ρ' h';simp only[VRel];exact⟨_,h',by simp⟩
theorem e38(r:HRel E.G I K ρ h w)(hn:h n=none)(hρ:ρ n=none){s:Sem Value}
 (hs:s.run E.P w = .ok (.map (some w.heap.size)) { w with heap:=w.heap.push (.map #[] 0) }):Val E I K ρ h n w s (.map n) (.new (.map [] [] [] 0)):=by
 refine⟨_,_,ρ.set n ⟨w.heap.size,0,0,0⟩,hs,?_,by simp only[VRel];exact⟨_,by simp[PMap.set];rfl,rfl⟩,Moves.set _ _ _ rfl⟩;refine a2q (ob:=.map #[] 0) r hn hρ rfl rfl rfl rfl rfl ?_;exact⟨#[],by simp,by simp[VRels],by simp[VRels],rfl⟩
end
end Go.Ax
/- AxAdr: addresses of fields and elements, parts of values, slices of slices and strings. -/
namespace Go.Ax
section
variable {E:Env}{I K:Nat->Prop}{ρ:PMap}{h:FHeap}{n:Nat}{w:World}
theorem VAt.drop'{vs:List AV}{b off:Nat}(i:Nat)(h:VAt I w ρ vs b off):VAt I w ρ (vs.drop i) b (off+i):=by
 by_cases hi:i<=vs.length
 ·exact VAt.drop i hi h
 ·rw[f9a (by omega)];simp[VAt]
theorem a4e(b o j:Nat):(⟨b,o,none⟩:Addr).add j=⟨b,o+j,none⟩:=by unfold Addr.add;split<;>simp_all
def a6a(E:Env)(s:TypeId)(p:AV)(f:Nat):Option AV:=
 match E.und s with
 |some (.struct fs)=>match fs[f]? with
  |some fd=>bif !(E.sz fd.type==0)&&(E.und fd.type).isSome then
   match p with
   |.ptr b i o=>some (.ptr b i (o+fd.offset))
   |.iptr cs=>some (.iptr (cs.drop fd.offset))
   |_=>none
   else none
  |none=>none
 |_=>none
theorem c09(ok:EnvOk E)(r:HRel E.G I K ρ h w){s:TypeId}{p v:AV}{f:Nat}{c:Value}(hl:a6a E s p f=some v)(hp:VRel I w ρ p c) :
 Val E I K ρ h n w (Instr.fieldAt s c f) v .none:=by
 unfold a6a at hl;cases hu:E.und s with
 |none=>simp[hu]at hl
 |some d=>
  cases d
  case struct fs=>
   simp only[hu]at hl;cases hf:fs[f]? with
   |none=>simp[hf]at hl
   |some fd=>
    simp only[hf]at hl;rw[cond_eq_ite]at hl;split at hl
    case isFalse=>cases hl
    rename_i hc;simp only[f1d,f6z,f6o]at hc;obtain⟨hz,hs⟩:=hc;obtain⟨wc,pP⟩:=f1j.1 hs;have gh:∀b o:Nat,(fieldPlace ⟨b,o,none⟩ fd).run E.P w = .ok ⟨b,o+fd.offset,none⟩ w:=by intro b o;simp[fieldPlace,a3a ok w pP,hz,a4e]
    cases p with
    |ptr b i o=>simp only[Option.some.injEq]at hl;subst hl;simp only[VRel]at hp;obtain⟨m,hm,rfl⟩:=hp;refine Val.here (c:=.pointer (some ⟨m.blk,m.off+i*m.k+o+fd.offset,none⟩)) r ?_ (by simp only[VRel];exact⟨m,hm,by rw[g0m _ o]⟩);simp[Instr.fieldAt,a0c ok w hu,hf,Instr.sureAddr,gh]
    |iptr cs=>simp only[Option.some.injEq]at hl;subst hl;simp only[VRel]at hp;obtain⟨b,off,rfl,hI,bO⟩:=hp;refine Val.here (c:=.pointer (some ⟨b,off+fd.offset,none⟩)) r ?_ (by simp only[VRel];exact⟨b,_,rfl,hI,VAt.drop' _ bO⟩);simp[Instr.fieldAt,a0c ok w hu,hf,Instr.sureAddr,gh]
    |_=>simp at hl
  all_goals simp[hu]at hl
theorem a9k(ok:EnvOk E){t:TypeId}{cs:List AV}{cv:Array Value}{off:Nat}{v:AV}(hv:a2r E t ((cs.drop off).take (E.sz t))=some v)
 (hc:VRels I w ρ cs cv.toList):∃c,(part t cv off).run E.P w = .ok c w∧VRel I w ρ v c:=by
 unfold a2r at hv;rw[cond_eq_ite]at hv;split at hv
 case isFalse=>cases hv
 rename_i hl;have hl:((cs.drop off).take (E.sz t)).length=E.sz t:=by simpa using hl
 cases hd:E.und t with
 |none=>simp[hd]at hv
 |some d=>
  simp only[hd]at hv;unfold part;cases eo:a2m d with
  |true=>simp only[eo,f2v,Option.some.injEq]at hv;subst hv;refine⟨.agg (cv.extract off (off+E.sz t)),by simp[b42 ok w hd,eo,a3a ok w hd],?_⟩;simp only[VRel];refine⟨_,rfl,?_⟩;have:=VRels.take (E.sz t) (VRels.drop off hc);simpa[Array.toList_extract,List.extract_eq_take_drop,List.extract]using this
  |false=>
   simp only[eo,f4i]at hv;have hk:=VRels.take (E.sz t) (VRels.drop off hc);have h0:((cs.drop off).take (E.sz t))[0]?=some v:=by rw[<-List.head?_eq_getElem?];exact hv
   obtain⟨c,cW,gG⟩:=VRels.get 0 hk h0;have:cv[off]?=some c:=by
    rw[f8v]at cW;split at cW
    ·simpa[List.getElem?_drop]using cW
    ·cases cW
   exact⟨c,by simp[b42 ok w hd,eo,this],gG⟩
theorem d19(ok:EnvOk E)(r:HRel E.G I K ρ h w){t:TypeId}{cs:List AV}{cv:Array Value}{off:Nat}{v:AV}(hv:a2r E t ((cs.drop off).take (E.sz t))=some v)
 (hc:VRels I w ρ cs cv.toList):Val E I K ρ h n w (part t cv off) v .none:=by
 obtain⟨c,h1,h2⟩:=a9k ok hv hc;exact Val.here r h1 h2
def b8e(E:Env)(t:TypeId)(x:AV)(f:Nat):Option AV:=
 match E.und t,x with
 |some (.struct fs),.agg cs=>match fs[f]? with
  |some fd=>a2r E fd.type ((cs.drop fd.offset).take (E.sz fd.type))
  |none=>none
 |_,_=>none
theorem d4j(ok:EnvOk E)(r:HRel E.G I K ρ h w){t:TypeId}{x v:AV}{f:Nat}{c:Value}(hl:b8e E t x f=some v)(hx:VRel I w ρ x c) :
 Val E I K ρ h n w (Instr.field t c f) v .none:=by
 unfold b8e at hl;split at hl
 ·rename_i fs cs hu;cases hf:fs[f]? with
  |none=>simp[hf]at hl
  |some fd=>
   simp only[hf]at hl;simp only[VRel]at hx;obtain⟨cv,rfl,hc⟩:=hx;have ae:(Instr.field t (.agg cv) f).run E.P w=(part fd.type cv fd.offset).run E.P w:=by simp[Instr.field,a0c ok w hu,hf,asAgg]
   obtain⟨c,w',ρ',h1,h2⟩:=d19 ok (n:=n) r hl hc;exact⟨c,w',ρ',by rw[ae,h1],h2⟩
 ·cases hl
def c9c(x:AV)(len:Nat):Option Nat:=
 match x with
 |.int _ i=>bif decide (0<=i)&&decide (i<(len:Int))then some i.toNat else none
 |_=>none
theorem b65{x:AV}{len j:Nat}{c:Value}(hi:c9c x len=some j)(hx:VRel I w ρ x c):∃k i,c = .int k i∧x = .int k i∧0<=i∧i<len∧i.toNat=j∧j<len:=by
 unfold c9c at hi;split at hi
 ·rename_i k i;rw[cond_eq_ite]at hi;split at hi
  ·rename_i hc;simp only[f1d,f2y]at hc;simp only[VRel]at hx;cases hi;exact⟨k,i,hx,rfl,hc.1,hc.2,rfl,by omega⟩
  ·cases hi
 ·cases hi
def a15(E:Env)(h:FHeap)(t:TypeId)(p ix:AV):Option AV:=
 match E.und t with
 |some (.array len ac)=>match c9c ix len with
  |some j=>bif (E.und ac).isSome then match p with
   |.ptr b i o=>some (.ptr b i (o+j*E.sz ac))
   |.iptr cs=>some (.iptr (cs.drop (j*E.sz ac)))
   |_=>none
   else none
  |none=>none
 |some (.slice ac)=>bif (E.und ac).isSome then match p with
  |.slice b off len _=>match c9c ix len with
   |some j=>match h b with
    |some (.row k _)=>bif k==E.sz ac then some (.ptr b (off+j) 0)else none
    |_=>none
   |none=>none
  |.islice aa _=>match c9c ix aa.length with
   |some j=>match aa[j]? with
    |some r=>bif r.length==E.sz ac then some (.iptr r)else none
    |none=>none
   |none=>none
  |_=>none
  else none
 |_=>none
theorem c08(ok:EnvOk E)(r:HRel E.G I K ρ h w){t:TypeId}{p ix v:AV}{c ci:Value}(hl:a15 E h t p ix=some v)(hp:VRel I w ρ p c)(hx:VRel I w ρ ix ci) :
 Val E I K ρ h n w (Instr.indexAt t c ci) v .none:=by
 unfold a15 at hl;split at hl
 ·rename_i len ac hu;cases hi:c9c ix len with
  |none=>simp[hi]at hl
  |some j=>
   simp only[hi]at hl;obtain⟨k,i,rfl,_,h0,h1,hj,bg⟩:=b65 hi hx;rw[cond_eq_ite]at hl;split at hl
   case isFalse=>cases hl
   rename_i he;obtain⟨de,bu⟩:=f1j.1 he;cases p with
   |ptr b i' o=>simp only[Option.some.injEq]at hl;subst hl;simp only[VRel]at hp;obtain⟨m,hm,rfl⟩:=hp;refine Val.here (c:=.pointer (some ⟨m.blk,m.off+i'*m.k+o+j*E.sz ac,none⟩)) r ?_ (by simp only[VRel];exact⟨m,hm,by rw[g0m _ o]⟩);simp[Instr.indexAt,asIntOf,a0c ok w hu,Instr.sureAddr,h0,h1,a3a ok w bu,hj,a4e]
   |iptr cs=>simp only[Option.some.injEq]at hl;subst hl;simp only[VRel]at hp;obtain⟨b,off,rfl,hI,bO⟩:=hp;refine Val.here (c:=.pointer (some ⟨b,off+j*E.sz ac,none⟩)) r ?_ (by simp only[VRel];exact⟨b,_,rfl,hI,VAt.drop' _ bO⟩);simp[Instr.indexAt,asIntOf,a0c ok w hu,Instr.sureAddr,h0,h1,a3a ok w bu,hj,a4e]
   |_=>simp at hl
 ·rename_i ac hu;rw[cond_eq_ite]at hl;split at hl
  case isFalse=>cases hl
  rename_i he;obtain⟨de,bu⟩:=f1j.1 he;cases p with
  |slice b off len cap=>
   simp only at hl;cases hi:c9c ix len with
   |none=>simp[hi]at hl
   |some j=>
    simp only[hi]at hl;obtain⟨k,i,rfl,_,h0,h1,hj,bg⟩:=b65 hi hx;cases hb:h b with
    |none=>simp[hb]at hl
    |some o=>
     cases o with
     |row kk aa=>
      simp only[hb]at hl;rw[cond_eq_ite]at hl;split at hl
      case isFalse=>cases hl
      rename_i hk;have hk:kk=E.sz ac:=by simpa using hk
      cases hl;obtain⟨m,hm,_,_,ho⟩:=r.live b _ hb;simp only[VRel]at hp;obtain⟨a,cc,rfl,bf,_,bM⟩:=hp;rcases bM with hz|⟨m',bl,rfl,_⟩
      ·omega
      obtain rfl:m=m':=z9o (hm.symm.trans bl);have kT:m.k=E.sz ac:=by rw[ho.1,hk]
      refine Val.here (c:=.pointer (some ⟨m.blk,m.off+off*m.k+j*m.k,none⟩)) r ?_ (by simp only[VRel];exact⟨m,hm,by rw[f8g];simp;omega⟩);simp[Instr.indexAt,asIntOf,a0c ok w hu,h0,h1,a3a ok w bu,hj,a4e,kT]
     |map ks vs bs cl=>simp[hb]at hl
     |siter s pos=>simp[hb]at hl
     |uset ks=>simp[hb]at hl
     |miter ks dC dK=>simp[hb]at hl
     |yloop y Fy st=>simp[hb]at hl
  |islice aa cap=>
   simp only at hl;cases hi:c9c ix aa.length with
   |none=>simp[hi]at hl
   |some j=>
    simp only[hi]at hl;obtain⟨k,i,rfl,_,h0,h1,hj,bg⟩:=b65 hi hx;cases hr:aa[j]? with
    |none=>simp[hr]at hl
    |some rr=>
     simp only[hr]at hl;rw[cond_eq_ite]at hl;split at hl
     case isFalse=>cases hl
     rename_i hk;have hk:rr.length=E.sz ac:=by simpa using hk
     cases hl;simp only[VRel]at hp;obtain⟨a,cc,kk,rfl,bf,_,bM⟩:=hp;rcases bM with hz|⟨hs,hI,aA⟩
     ·subst hz;simp at bg
     obtain⟨ak,bO⟩:=VRows.get j aA hr;have ha:a=⟨a.block,a.off,none⟩:=by cases a;simp_all
     refine Val.here (c:=.pointer (some ⟨a.block,a.off+j*kk,none⟩)) r ?_ (by simp only[VRel];exact⟨_,_,rfl,hI,bO⟩);rw[ha];simp[Instr.indexAt,asIntOf,a0c ok w hu,h0,h1,a3a ok w bu,hj,a4e,<-hk,ak]
  |_=>simp at hl
 ·cases hl
def b8d(E:Env)(t:TypeId)(x ix:AV):Option AV:=
 match E.und t,x with
 |some (.array len ac),.agg cs=>match c9c ix len with
  |some j=>bif (E.und ac).isSome then a2r E ac ((cs.drop (j*E.sz ac)).take (E.sz ac))else none
  |none=>none
 |some .string,.str s=>match c9c ix s.length with
  |some j=>match s[j]? with
   |some b=>some (.int .u8 b.toNat)
   |none=>none
  |none=>none
 |_,_=>none
theorem d3x(t:ByteArray)(i:Nat):t[i]?=t.data.toList[i]?:=by
 simp only[f8h];by_cases hi:i<t.size
 ·have h2:i<t.data.size:=hi;rw[getElem?_pos t i hi,getElem?_pos t.data i h2];rfl
 ·have h2:¬i<t.data.size:=hi;rw[getElem?_neg t i hi,getElem?_neg t.data i h2]
theorem d4i(ok:EnvOk E)(r:HRel E.G I K ρ h w){t:TypeId}{x ix v:AV}{c ci:Value}(hl:b8d E t x ix=some v)(hp:VRel I w ρ x c)(hx:VRel I w ρ ix ci) :
 Val E I K ρ h n w (Instr.index t c ci) v .none:=by
 unfold b8d at hl;split at hl
 ·rename_i len ac cs hu;cases hi:c9c ix len with
  |none=>simp[hi]at hl
  |some j=>
   simp only[hi]at hl;obtain⟨k,i,rfl,_,h0,h1,hj,bg⟩:=b65 hi hx;rw[cond_eq_ite]at hl;split at hl
   case isFalse=>cases hl
   rename_i he;obtain⟨de,bu⟩:=f1j.1 he;simp only[VRel]at hp;obtain⟨cv,rfl,hc⟩:=hp;have ae:(Instr.index t (.agg cv) (.int k i)).run E.P w=(part ac cv (j*E.sz ac)).run E.P w:=by simp[Instr.index,asIntOf,a0c ok w hu,h0,h1,a3a ok w bu,hj]
   obtain⟨c,w',ρ',h1,h2⟩:=d19 ok (n:=n) r hl hc;exact⟨c,w',ρ',by rw[ae,h1],h2⟩
 ·rename_i s hu;cases hi:c9c ix s.length with
  |none=>simp[hi]at hl
  |some j=>
   simp only[hi]at hl;obtain⟨k,i,rfl,_,h0,h1,hj,bg⟩:=b65 hi hx;simp only[VRel]at hp;obtain⟨tb,rfl,hs⟩:=hp;cases hb:s[j]? with
   |none=>simp[hb]at hl
   |some b=>
    simp only[hb,Option.some.injEq]at hl;subst hl;have:tb[i.toNat]?=some b:=by rw[d3x,hs,hj,hb]
    refine Val.here (c:=.int .u8 b.toNat) r ?_ (by simp[VRel]);simp[Instr.index,asIntOf,a0c ok w hu,h0,this]
 ·cases hl
/-! ### slicing -/
def a1k(x:Option AV)(y:Nat)(d:Nat):Option Nat:=
 match x with
 |none=>some d
 |some (.int _ i)=>bif decide (0<=i)&&decide (i<=(y:Int))then some i.toNat else none
 |some _=>none
def a37(I:Nat->Prop)(w:World)(ρ:PMap):Option AV->Option Value->Prop
 |none,c=>c=none
 |some v,c=>∃x,c=some x∧VRel I w ρ v x
theorem a5g{x:Option AV}{c:Option Value}{y d j:Nat}(hb:a1k x y d=some j)(hx:a37 I w ρ x c)(y':Nat)(hy:y<=y')(code:BoundsCode) :
 (match c with|some v=>Instr.sliceBound v y' code|none=>pure d:Sem Nat).run E.P w = .ok j w∧(c.isSome=true->j<=y):=by
 unfold a1k at hb;split at hb
 ·simp only[a37]at hx;subst hx;cases hb;simp
 ·rename_i k i;simp only[a37,VRel]at hx;obtain⟨_,rfl,rfl⟩:=hx;rw[cond_eq_ite]at hb;split at hb
  ·rename_i hc;simp only[f1d,f2y]at hc;cases hb;have:0<=i∧i<=(y':Int):=⟨hc.1,by omega⟩
   exact⟨by simp[Instr.sliceBound,asIntOf,this],λ_=>by omega⟩
  ·cases hb
 ·cases hb
end
end Go.Ax
/- AxSli: slices of slices and strings; composite values; rows that are c8c. -/
namespace Go.Ax
section
variable {E:Env}{I K:Nat->Prop}{ρ:PMap}{h:FHeap}{n:Nat}{w:World}
def a1j(len:Nat)(cap:Option Nat):Nat:=match cap with|some c=>c|none=>len
def b2u(k:Nat):Nat->List AV->List (List AV)
 |0,_=>[]
 |n+1,cs=>cs.take k::b2u k n (cs.drop k)
def a5z(E:Env)(h:FHeap)(t:TypeId)(x:AV)(lo hi mx:Option AV):Option AV:=
 match E.und t,x with
 |some .string,.str s=>
  match mx,a1k hi s.length s.length with
  |none,some j=>match a1k lo j 0 with
   |some l=>some (.str ((s.take j).drop l))
   |none=>none
  |_,_=>none
 |some (.slice ac),.slice b off len cap=>
  bif (E.und ac).isSome then
  match h b with
  |some (.row k _)=>bif k==E.sz ac then
   match mx with
   |none=>match a1k hi (a1j len cap) len with
    |some j=>match a1k lo j 0 with
     |some l=>some (.slice b (off+l) (j-l) (cap.map (·- l)))
     |none=>none
    |none=>none
   |some m=>match a1k (some m) (a1j len cap) 0 with
    |some mm=>match hi with
     |none=>none
     |some _=>match a1k hi mm 0 with
      |some j=>match a1k lo j 0 with
       |some l=>some (.slice b (off+l) (j-l) (some (mm-l)))
       |none=>none
      |none=>none
    |none=>none
   else none
  |_=>none
  else none
 |some (.slice ac),.islice aa cap=>
  bif (E.und ac).isSome&&aa.all (λr=>r.length==E.sz ac)then
   match mx with
   |none=>match a1k hi aa.length aa.length with
    |some j=>match a1k lo j 0 with
     |some l=>some (.islice ((aa.take j).drop l) (cap.map (·- l)))
     |none=>none
    |none=>none
   |some m=>match a1k (some m) aa.length 0 with
    |some mm=>match hi with
     |none=>none
     |some _=>match a1k hi mm 0 with
      |some j=>match a1k lo j 0 with
       |some l=>some (.islice ((aa.take j).drop l) (some (mm-l)))
       |none=>none
      |none=>none
    |none=>none
  else none
 |some (.slice ac),.nilslice=>
  bif (E.und ac).isSome then
  match mx with
  |none=>match a1k hi 0 0 with
   |some j=>match a1k lo j 0 with
    |some _=>some .nilslice
    |none=>none
   |none=>none
  |some m=>match a1k (some m) 0 0 with
   |some mm=>match hi with
    |none=>none
    |some _=>match a1k hi mm 0 with
     |some j=>match a1k lo j 0 with
      |some _=>some .nilslice
      |none=>none
     |none=>none
   |none=>none
  else none
 |some (.array len ac),.iptr cs=>match lo,hi,mx with
  |none,none,none=>bif (E.und ac).isSome&&(cs.length==len*E.sz ac&&Nat.blt 0 len)then some (.islice (b2u (E.sz ac) len cs) (some len))else none
  |_,_,_=>none
 |_,_=>none
theorem b5x{lo hi:Option AV}{clo i5:Option Value}{fN lb j l:Nat}(hj:a1k hi fN lb=some j)(hl:a1k lo j 0=some l)
 (rh:a37 I w ρ hi i5)(rl:a37 I w ρ lo clo)(oT:Bool)(len cap:Nat)(ak:lb=len)(aY:fN<=cap)(vS:lb<=fN) :
 (Instr.sliceBounds oT len cap clo i5 none).run E.P w = .ok (l,j,cap) w∧l<=j∧j<=fN:=by
 subst ak;have fG:=a5g (E:=E) hl rl j (f2q _) .sliceB;have bg:l<=j:=by
  unfold a1k at hl;split at hl
  ·cases hl;omega
  ·rw[cond_eq_ite]at hl;split at hl
   ·rename_i hc;simp only[f1d,f2y]at hc;cases hl;omega
   ·cases hl
  ·cases hl
 have uT:j<=fN:=by
  unfold a1k at hj;split at hj
  ·cases hj;omega
  ·rw[cond_eq_ite]at hj;split at hj
   ·rename_i hc;simp only[f1d,f2y]at hc;cases hj;omega
   ·cases hj
  ·cases hj
 refine⟨?_,bg,uT⟩;unfold Instr.sliceBounds;cases oT
 ·have bV:=a5g (E:=E) hj rh cap aY .sliceAlen;cases i5<;>cases clo<;>simp at bV fG<;>simp[bV,fG]
 ·have bV:=a5g (E:=E) hj rh cap aY .sliceAcap;cases i5<;>cases clo<;>simp at bV fG<;>simp[bV,fG]
theorem c4m{lo hi:Option AV}{m:AV}{clo i5:Option Value}{cm:Value}{fN mm j l:Nat}(hm:a1k (some m) fN 0=some mm)(hj:a1k hi mm 0=some j)(hl:a1k lo j 0=some l)
 (rm:VRel I w ρ m cm)(rh:a37 I w ρ hi i5)(my:hi.isSome=true)(rl:a37 I w ρ lo clo)(oT:Bool)(len cap:Nat)(aY:fN<=cap) :
 (Instr.sliceBounds oT len cap clo i5 (some cm)).run E.P w = .ok (l,j,mm) w∧l<=j∧j<=mm∧mm<=fN:=by
 have sk:∃ch,i5=some ch:=by
  cases hi with
  |none=>simp at my
  |some x=>simp only[a37]at rh;obtain⟨y,h,_⟩:=rh;exact⟨y,h⟩
 obtain⟨ch,rfl⟩:=sk;have fG:=a5g (E:=E) hl rl j (f2q _) .slice3C;have bV:=a5g (E:=E) hj rh mm (f2q _) .slice3B;have le:∀{x:Option AV} {y d z:Nat},a1k x y d=some z->d<=y->z<=y:=by
  intro x y d z hz hd;unfold a1k at hz;split at hz
  ·cases hz;omega
  ·rw[cond_eq_ite]at hz;split at hz
   ·rename_i hc;simp only[f1d,f2y]at hc;cases hz;omega
   ·cases hz
  ·cases hz
 refine⟨?_,le hl (f2i _),le hj (f2i _),le hm (f2i _)⟩;unfold Instr.sliceBounds;cases oT
 ·have pA:=a5g (E:=E) (c:=some cm) hm (by simp only[a37];exact⟨cm,rfl,rm⟩) cap aY .slice3Alen;cases clo<;>simp at pA bV fG<;>simp[pA,bV,fG]
 ·have pA:=a5g (E:=E) (c:=some cm) hm (by simp only[a37];exact⟨cm,rfl,rm⟩) cap aY .slice3Acap;cases clo<;>simp at pA bV fG<;>simp[pA,bV,fG]
theorem a2a(ok:EnvOk E){t ac:TypeId}(hu:E.und t=some (.slice ac)){de:TypeDesc}(he:E.und ac=some de){a:Option Addr}{len cap l j m:Nat}{clo i5 qn:Option Value}
 (hb:(Instr.sliceBounds true len cap clo i5 qn).run E.P w = .ok (l,j,m) w) :
 (Instr.sliceAt t (.slice a len cap) clo i5 qn).run E.P w = .ok (.slice (if m=l then a else a.map (·.add (l*E.sz ac))) (j-l) (m-l)) w:=by
 simp[Instr.sliceAt,a0c ok w hu,Instr.slice,hb,a3a ok w he]
theorem a6z(s:ByteArray)(l j:Nat):(s.extract l j).data.toList=(s.data.toList.take j).drop l:=by rw[ByteArray.data_extract,Array.toList_extract,List.extract_eq_take_drop];rw[List.drop_take]
theorem a9v{b off len:Nat}{cap:Option Nat}{a:Addr}{c l j m:Nat}{k:Nat}{aa:List (List AV)}{kL:Option Nat}{sz:Nat}
 (r:HRel E.G I K ρ h w)(hb:h b=some (.row k aa))(hk:k=sz)(hp:VRel I w ρ (.slice b off len cap) (.slice (some a) len c))
 (uO:l<=j)(uS:j<=m)(vP:m<=c)(aY:∀n,kL=some n->m-l=n) :
 VRel I w ρ (.slice b (off+l) (j-l) kL) (.slice (if m=l then some a else(some a).map (·.add (l*sz))) (j-l) (m-l)):=by
 simp only[VRel]at hp⊢;obtain⟨a',c',he,bf,hc,bM⟩:=hp;cases he;by_cases d5:m=l
 ·rw[f2w d5];exact⟨a,m-l,by simp,by omega,aY,.inl (by omega)⟩
 ·rw[f2m d5];rcases bM with h0|⟨mm,gy,rfl,bc⟩
  ·omega
  ·obtain⟨m',bl,_,_,ho⟩:=r.live b _ hb;obtain rfl:mm=m':=z9o (gy.symm.trans bl);refine⟨_,m-l,rfl,by omega,aY,.inr ⟨mm,gy,?_,?_⟩⟩
   ·dsimp only;rw[a4e,ho.1,hk,f8g]
    congr 1;omega
   ·have:(off+l+(m-l))*mm.k<=(off+c)*mm.k:=f7j _ (by omega);omega
theorem a8k{aa:List (List AV)}{cap:Option Nat}{a:Addr}{c l j m sz:Nat}{kL:Option Nat}(aW:aa.all (λr=>r.length==sz)=true)
 (hp:VRel I w ρ (.islice aa cap) (.slice (some a) aa.length c))(uO:l<=j)(uS:j<=m)(tE:j<=aa.length)(_:m<=c)(aY:∀n,kL=some n->m-l=n) :
 VRel I w ρ (.islice ((aa.take j).drop l) kL) (.slice (if m=l then some a else(some a).map (·.add (l*sz))) (j-l) (m-l)):=by
 simp only[VRel]at hp⊢;obtain⟨a',c',k,he,bf,hc,bM⟩:=hp;cases he;have ak:((aa.take j).drop l).length=j-l:=by simp;omega
 by_cases d5:m=l
 ·rw[f2w d5];refine⟨a,m-l,k,by rw[ak],by rw[ak];omega,aY,.inl ?_⟩;apply f9a;simp;omega
 ·rw[f2m d5];refine⟨_,m-l,k,by rw[ak];rfl,by rw[ak];omega,aY,?_⟩;rcases bM with h0|⟨hs,hI,aA⟩
  ·left;subst h0;simp
  ·by_cases hr:aa=[]
   ·left;subst hr;simp
   ·right;have mr:k=sz:=by
     cases aa with
     |nil=>exact absurd rfl hr
     |cons r rs=>simp only[VRows]at aA;simp only[List.all_cons,f1d,f7u]at aW;omega
    have ha:a=⟨a.block,a.off,none⟩:=by cases a;simp_all
    rw[ha];dsimp only;rw[a4e];refine⟨rfl,hI,?_⟩;have h2:l<=(aa.take j).length:=by simp;omega
    have:=VRows.drop l h2 (VRows.take j aA);rw[mr]at this⊢;exact this
theorem b27(k:Nat):∀(n:Nat) (cs:List AV),(b2u k n cs).length=n
 |0,_=>rfl
 |n+1,cs=>by simp[b2u,b27 k n]
theorem b5r{k:Nat}:∀(n:Nat) {cs:List AV} {b off:Nat},cs.length=n*k->VAt I w ρ cs b off->VRows I w k ρ (b2u k n cs) b off
 |0,cs,b,off,_,_=>by simp[b2u,VRows]
 |n+1,cs,b,off,hl,hv=>by rw[g0h]at hl;simp only[b2u,VRows];refine⟨by rw[f2z];omega,VAt.take k hv,?_⟩;have hd:=VAt.drop (I:=I) (w:=w) (ρ:=ρ) k (by omega:k<=cs.length) hv;exact b5r n (by rw[List.length_drop];omega) hd
theorem c02(ok:EnvOk E)(r:HRel E.G I K ρ h w){n:Nat}{t ac:TypeId}{len:Nat}(hu:E.und t=some (.array len ac)){de:TypeDesc}(bu:E.und ac=some de){cs:List AV}{c:Value}
 (ak:cs.length=len*E.sz ac)(iI:0<len)(hx:VRel I w ρ (.iptr cs) c):Val E I K ρ h n w (Instr.sliceAt t c none none none) (.islice (b2u (E.sz ac) len cs) (some len)) .none:=by
 simp only[VRel]at hx;obtain⟨b,off,rfl,hI,bO⟩:=hx;have bD:¬len=0:=by omega
 have hb:=b5x (E:=E) (I:=I) (ρ:=ρ) (w:=w) (lo:=none) (hi:=none) (clo:=none) (i5:=none) (fN:=len) (lb:=len) (j:=len) (l:=0) rfl rfl (by simp[a37]) (by simp[a37]) false len len rfl (f2q _) (f2q _);refine Val.here (c:=.slice (some ⟨b,off,none⟩) len len) r ?_ ?_
 ·simp[Instr.sliceAt,a0c ok w hu,Instr.sureAddr,hb.1,a3a ok w bu,bD,a4e]
 ·simp only[VRel];refine⟨_,len,E.sz ac,by rw[b27],by rw[b27];exact f2q _,λq hq=>by cases hq;rfl,.inr ⟨rfl,hI,b5r len ak bO⟩⟩
theorem d45(ok:EnvOk E)(r:HRel E.G I K ρ h w){t:TypeId}{x v:AV}{lo hi mx:Option AV}{c:Value}{clo i5 qn:Option Value}(hl:a5z E h t x lo hi mx=some v)
 (hx:VRel I w ρ x c)(rl:a37 I w ρ lo clo)(rh:a37 I w ρ hi i5)(rm:a37 I w ρ mx qn):Val E I K ρ h n w (Instr.sliceAt t c clo i5 qn) v .none:=by
 unfold a5z at hl;split at hl
 · -- strings
  rename_i s hu;split at hl
  ·rename_i j hj;simp only[a37]at rm;subst rm;cases bX:a1k lo j 0 with
   |none=>simp[bX]at hl
   |some l=>
    simp only[bX,Option.some.injEq]at hl;subst hl;simp only[VRel]at hx;obtain⟨tb,rfl,hs⟩:=hx;have cj:tb.size=s.length:=by rw[<-hs,f4p];rfl
    obtain⟨hb,h1,h2⟩:=b5x (E:=E) hj bX rh rl false tb.size tb.size cj.symm (by omega) (f2q _);refine Val.here (c:=.string (tb.extract l j)) r ?_ (by simp only[VRel];exact⟨_,rfl,by rw[a6z,hs]⟩);simp[Instr.sliceAt,a0c ok w hu,Instr.slice,hb]
  ·cases hl
 · -- a mutable block
  rename_i ac b off len cap hu;rw[cond_eq_ite]at hl;split at hl
  case isFalse=>cases hl
  rename_i he;obtain⟨de,bu⟩:=f1j.1 he;split at hl
  case h_2=>cases hl
  rename_i k aa hb;rw[cond_eq_ite]at hl;split at hl
  case isFalse=>cases hl
  rename_i hk;have hk:k=E.sz ac:=by simpa using hk
  have fY:=hx;simp only[VRel]at fY;obtain⟨a,cc,rfl,bf,aY,bM⟩:=fY;have mI:a1j len cap<=cc:=by unfold a1j;cases cap with|none=>exact bf|some c=>rw[aY c rfl];exact f2q _
  have pE:len<=a1j len cap:=by unfold a1j;cases cap with|none=>exact f2q _|some c=>rw[<-aY c rfl];exact bf
  cases mx with
  |none=>
   simp only[a37]at rm;subst rm;simp only at hl;cases hj:a1k hi (a1j len cap) len with
   |none=>simp[hj]at hl
   |some j=>
    simp only[hj]at hl;cases bX:a1k lo j 0 with
    |none=>simp[bX]at hl
    |some l=>
     simp only[bX,Option.some.injEq]at hl;subst hl;obtain⟨hE,h1,h2⟩:=b5x (E:=E) hj bX rh rl true len cc rfl mI pE;refine Val.here r (a2a ok hu bu hE) (a9v r hb hk hx h1 (by omega) (f2q _) ?_);intro q hq;cases cap with
     |none=>simp at hq
     |some c=>simp at hq;rw[aY c rfl];exact hq
  |some m=>
   simp only[a37]at rm;obtain⟨cm,rfl,rm⟩:=rm;simp only at hl;cases gy:a1k (some m) (a1j len cap) 0 with
   |none=>simp[gy]at hl
   |some mm=>
    simp only[gy]at hl;cases hi with
    |none=>simp at hl
    |some hi=>
     simp only at hl;cases hj:a1k (some hi) mm 0 with
     |none=>simp[hj]at hl
     |some j=>
      simp only[hj]at hl;cases bX:a1k lo j 0 with
      |none=>simp[bX]at hl
      |some l=>simp only[bX,Option.some.injEq]at hl;subst hl;obtain⟨hE,h1,h2,h3⟩:=c4m (E:=E) gy hj bX rm rh rfl rl true len cc mI;exact Val.here r (a2a ok hu bu hE) (a9v r hb hk hx h1 h2 (by omega) (λq hq=>by cases hq;rfl))
 · -- immutable memory
  rename_i ac aa cap hu;rw[cond_eq_ite]at hl;split at hl
  case isFalse=>cases hl
  rename_i he;simp only[f1d]at he;obtain⟨de,bu⟩:=f1j.1 he.1;have fY:=hx;simp only[VRel]at fY;obtain⟨a,cc,kk,rfl,bf,aY,bM⟩:=fY;cases mx with
  |none=>
   simp only[a37]at rm;subst rm;simp only at hl;cases hj:a1k hi aa.length aa.length with
   |none=>simp[hj]at hl
   |some j=>
    simp only[hj]at hl;cases bX:a1k lo j 0 with
    |none=>simp[bX]at hl
    |some l=>
     simp only[bX,Option.some.injEq]at hl;subst hl;obtain⟨hE,h1,h2⟩:=b5x (E:=E) hj bX rh rl true aa.length cc rfl bf (f2q _);refine Val.here r (a2a ok hu bu hE) (a8k he.2 hx h1 (by omega) h2 (f2q _) ?_);intro q hq;cases cap with
     |none=>simp at hq
     |some c=>simp at hq;rw[aY c rfl];exact hq
  |some m=>
   simp only[a37]at rm;obtain⟨cm,rfl,rm⟩:=rm;simp only at hl;cases gy:a1k (some m) aa.length 0 with
   |none=>simp[gy]at hl
   |some mm=>
    simp only[gy]at hl;cases hi with
    |none=>simp at hl
    |some hi=>
     simp only at hl;cases hj:a1k (some hi) mm 0 with
     |none=>simp[hj]at hl
     |some j=>
      simp only[hj]at hl;cases bX:a1k lo j 0 with
      |none=>simp[bX]at hl
      |some l=>simp only[bX,Option.some.injEq]at hl;subst hl;obtain⟨hE,h1,h2,h3⟩:=c4m (E:=E) gy hj bX rm rh rfl rl true aa.length cc bf;exact Val.here r (a2a ok hu bu hE) (a8k he.2 hx h1 h2 (by omega) (by omega) (λq hq=>by cases hq;rfl))
 · -- nil
  rename_i ac hu;rw[cond_eq_ite]at hl;split at hl
  case isFalse=>cases hl
  rename_i he;obtain⟨de,bu⟩:=f1j.1 he;simp only[VRel]at hx;subst hx;cases mx with
  |none=>
   simp only[a37]at rm;subst rm;simp only at hl;cases hj:a1k hi 0 0 with
   |none=>simp[hj]at hl
   |some j=>
    simp only[hj]at hl;cases bX:a1k lo j 0 with
    |none=>simp[bX]at hl
    |some l=>
     simp only[bX,Option.some.injEq]at hl;subst hl;obtain⟨hE,h1,h2⟩:=b5x (E:=E) hj bX rh rl true 0 0 rfl (f2q _) (f2q _);obtain rfl:j=0:=by omega
     obtain rfl:l=0:=by omega
     exact Val.here (c:=.slice none 0 0) r (by rw[a2a ok hu bu hE];rfl) (by simp[VRel])
  |some m=>
   simp only[a37]at rm;obtain⟨cm,rfl,rm⟩:=rm;simp only at hl;cases gy:a1k (some m) 0 0 with
   |none=>simp[gy]at hl
   |some mm=>
    simp only[gy]at hl;cases hi with
    |none=>simp at hl
    |some hi=>
     simp only at hl;cases hj:a1k (some hi) mm 0 with
     |none=>simp[hj]at hl
     |some j=>
      simp only[hj]at hl;cases bX:a1k lo j 0 with
      |none=>simp[bX]at hl
      |some l=>
       simp only[bX,Option.some.injEq]at hl;subst hl;obtain⟨hE,h1,h2,h3⟩:=c4m (E:=E) gy hj bX rm rh rfl rl true 0 0 (f2q _);obtain rfl:mm=0:=by omega
       obtain rfl:j=0:=by omega
       obtain rfl:l=0:=by omega
       exact Val.here (c:=.slice none 0 0) r (by rw[a2a ok hu bu hE];rfl) (by simp[VRel])
 · -- a whole array
  rename_i len ac cs hu;split at hl
  case h_2=>cases hl
  rw[cond_eq_ite]at hl;split at hl
  case isFalse=>cases hl
  rename_i he;simp only[f1d,f7u]at he;obtain⟨he,ak,hp⟩:=he;obtain⟨de,bu⟩:=f1j.1 he;have hp:0<len:=by simpa[f4o]using hp
  cases hl;simp only[a37]at rl rh rm;subst rl rh rm;exact c02 ok r hu bu ak hp hx
 ·cases hl
end
end Go.Ax
/- AxMake: composite values, slice literals, make. -/
namespace Go.Ax
section
variable {E:Env}{I K:Nat->Prop}{ρ:PMap}{h:FHeap}{n:Nat}{w:World}
def AV.isJunk:AV->Bool
 |.junk=>true
 |_=>false
theorem AV.not_junk{v:AV}(h:v.isJunk=false):v≠ .junk:=by rintro rfl;simp[AV.isJunk]at h
def b2a(fO:Nat->Option (Nat×Nat))(cells:List AV):List (Nat×AV)->Option (List AV)
 | []=>some cells
 |(i,v)::al=>match fO i with
  |none=>none
  |some (off,size)=>bif !v.isJunk&&v.cells.length==size&&Nat.ble (off+size) cells.length then b2a fO (splice cells off v.cells) al else none
def a64(I:Nat->Prop)(w:World)(ρ:PMap):List (Nat×AV)->List (Nat×Value)->Prop
 | [],l=>l=[]
 |(i,v)::r,l=>∃c r',l=(i,c)::r'∧VRel I w ρ v c∧a64 I w ρ r r'
def e7g(a:List Value)(off:Nat)(cs:List Value):List Value:=a.take off++cs++a.drop (off+cs.length)
theorem c26(off:Nat):∀(cs:List Value) (j:Nat) (a:Array Value),off+j+cs.length<=a.size->
 (((cs.zipIdx j).foldl (λ(a:Array Value) (x:Value×Nat)=>a.setIfInBounds (off+x.2) x.1) a).toList=e7g a.toList (off+j) cs)
 | [],j,a,_=>by simp[e7g]
 |c::cs,j,a,hl=>by
  simp only[f1c]at hl;simp only[List.zipIdx_cons,List.foldl_cons];rw[c26 off cs (j+1) _ (by simp;omega)];unfold e7g;simp only[Array.toList_setIfInBounds,f1c];rw[show off+(j+1)=(off+j)+1 by omega,show(off+j)+(cs.length+1)=(off+j)+1+cs.length by omega];have ai:off+j<a.toList.length:=by simp;omega
  rw[List.take_succ_eq_append_getElem (by simpa using ai),List.take_set_of_le (f2q _),List.drop_set_of_lt (by omega)];simp
theorem VRels.splice{vs cs:List AV}{xs ys:List Value}{off:Nat}(h:VRels I w ρ vs xs)(k:VRels I w ρ cs ys):VRels I w ρ (Ax.splice vs off cs) (e7g xs off ys):=by unfold Ax.splice e7g;rw[VRels.length k];exact VRels.append (VRels.append (VRels.take off h) k) (VRels.drop _ h)
theorem b3p{fO:Nat->Option (Nat×Nat)}:∀{aq:List (Nat×AV)} {cells jO:List AV} {cv:Array Value} {cH:List (Nat×Value)},
 b2a fO cells aq=some jO->VRels I w ρ cells cv.toList->a64 I w ρ aq cH->∃jh,Instr.fill fO cv cH=some jh∧VRels I w ρ jO jh.toList
 | [],cells,jO,cv,cH,hf,hc,hp=>by simp only[a64]at hp;subst hp;simp only[b2a,Option.some.injEq]at hf;subst hf;exact⟨cv,rfl,hc⟩
 |(i,v)::al,cells,jO,cv,cH,hf,hc,hp=>by
  simp only[a64]at hp;obtain⟨c,r',rfl,hv,hp⟩:=hp;simp only[b2a]at hf;cases bU:fO i with
  |none=>simp[bU]at hf
  |some os=>
   obtain⟨off,size⟩:=os;simp only[bU]at hf;rw[cond_eq_ite]at hf;split at hf
   case isFalse=>cases hf
   rename_i gZ;simp only[f1d,f6z,f7u,f7k]at gZ;obtain⟨⟨hj,cj⟩,cG⟩:=gZ;have cL:=VRel.cells hv (AV.not_junk hj);have ot:=VRels.length cL;have np:=VRels.length hc;simp only[f4p]at ot np;have pf:=c26 off c.cells.toList 0 cv (by simp;omega);simp only[f8z]at pf;have aX:VRels I w ρ (splice cells off v.cells) ((c.cells.zipIdx.foldl (λcs (x:Value×Nat)=>cs.setIfInBounds (off+x.2) x.1) cv).toList):=by
    have e:(c.cells.zipIdx.foldl (λcs (x:Value×Nat)=>cs.setIfInBounds (off+x.2) x.1) cv) =
     (c.cells.toList.zipIdx.foldl (λcs (x:Value×Nat)=>cs.setIfInBounds (off+x.2) x.1) cv):=by
     rw[<-Array.foldl_toList,Array.toList_zipIdx]
    rw[e,pf];exact VRels.splice hc cL
   obtain⟨jh,h1,h2⟩:=b3p hf aX hp;refine⟨jh,?_,h2⟩;simp only[Instr.fill,bU];have:¬((c.cells.size≠size||decide (off+c.cells.size>cv.size))=true):=by simp only[ne_eq,f8w,f2y,not_or];omega
   rw[f2m (by simpa using this)];exact h1
def b8i(E:Env)(t:TypeId)(aq:List (Nat×AV)):Option AV:=
 match E.zero t with
 |none=>none
 |some z=>match E.und t with
  |some (.struct fs)=>bif fs.toList.all (λf=>(E.und f.type).isSome)then
   match b2a (λi=>(fs[i]?).map λf=>(f.offset,E.sz f.type)) z aq with
   |some cs=>some (.agg cs)
   |none=>none
   else none
  |some (.array _ ac)=>bif (E.und ac).isSome then
   match b2a (λi=>some (i*E.sz ac,E.sz ac)) z aq with
   |some cs=>some (.agg cs)
   |none=>none
   else none
  |_=>none
theorem b70(ok:EnvOk E):∀(fs:List Field) (w:World),fs.all (λf=>(E.und f.type).isSome)=true->
 (fs.mapM (λf=>do pure (f.offset,<-sizeOf f.type):Field->Sem (Nat×Nat))).run E.P w = .ok (fs.map λ(f:Field)=>(f.offset,E.sz f.type)) w
 | [],w,_=>by simp
 |f::fs,w,hf=>by simp only[List.all_cons,f1d]at hf;obtain⟨d,hd⟩:=f1j.1 hf.1;have ih:=b70 ok fs w hf.2;simp only[List.mapM_cons,Sem.run_bind,a3a ok w hd,Result.andThen_ok,Sem.run_pure,ih,f1a]
theorem d4p(ok:EnvOk E)(r:HRel E.G I K ρ h w){t:TypeId}{aq:List (Nat×AV)}{cH:List (Nat×Value)}{v:AV}(hl:b8i E t aq=some v)(hp:a64 I w ρ aq cH) :
 Val E I K ρ h n w (Instr.build t cH.toArray) v .none:=by
 unfold b8i at hl;cases hz:E.zero t with
 |none=>simp[hz]at hl
 |some z=>
  simp only[hz]at hl;obtain⟨zv,e9,_,bJ⟩:=a7m ok w hz;have bN:VRels I w ρ z zv.cells.toList:=VRels.noRef_any (bJ I w);split at hl
  ·rename_i fs hu;rw[cond_eq_ite]at hl;split at hl
   case isFalse=>cases hl
   rename_i aW;split at hl
   case h_2=>cases hl
   rename_i cs hf;cases hl;obtain⟨jh,h1,h2⟩:=b3p hf bN hp;refine Val.here (c:=.agg jh) r ?_ (by simp only[VRel];exact⟨jh,rfl,h2⟩);have bU:=b70 ok fs.toList w aW;have hm:(fs.mapM (λf=>do pure (f.offset,<-sizeOf f.type):Field->Sem (Nat×Nat))).run E.P w = .ok (fs.map λ(f:Field)=>(f.offset,E.sz f.type)) w:=by
    rw[Array.mapM_eq_mapM_toList,Sem.run_map,bU];simp only[Result.andThen_ok]
    congr 1
    apply f9b;simp
   have gh:(λ(i:Nat)=>(fs.map λ(f:Field)=>(f.offset,E.sz f.type))[i]?)=(λ(i:Nat)=>(fs[i]?).map λ(f:Field)=>(f.offset,E.sz f.type)):=by funext i;simp
   simp only[Instr.build,Sem.run_bind,e9,Result.andThen_ok,a0c ok w hu,hm,gh,h1,Sem.run_pure]
  ·rename_i m ac hu;rw[cond_eq_ite]at hl;split at hl
   case isFalse=>cases hl
   rename_i he;obtain⟨de,bu⟩:=f1j.1 he;split at hl
   case h_2=>cases hl
   rename_i cs hf;cases hl;obtain⟨jh,h1,h2⟩:=b3p hf bN hp;refine Val.here (c:=.agg jh) r ?_ (by simp only[VRel];exact⟨jh,rfl,h2⟩);simp only[Instr.build,Sem.run_bind,e9,Result.andThen_ok,a0c ok w hu,a3a ok w bu,h1,Sem.run_pure]
  ·cases hl
/-! ### rows of equal elements -/
theorem a3w{α:Type}[Inhabited α](zs:List α):∀c:Nat,((List.range (c*zs.length)).map λi=>zs[i%zs.length]!)=(List.replicate c zs).flatten
 |0=>by simp
 |c+1=>by
  rw[g0h,List.range_add,f2t,a3w zs c,List.replicate_succ',List.flatten_append]
  congr 1
  simp only[f7c,f7a,List.flatten_nil,f1b];apply List.ext_getElem
  ·simp
  ·intro i h1 h2;simp only[List.getElem_map,List.getElem_range,Function.comp];rw[Nat.add_comm,Nat.add_mul_mod_self_right,Nat.mod_eq_of_lt h2];simp[h2]
theorem VRels.flatten_replicate{z:List AV}{zs:List Value}(hz:VRels I w ρ z zs):∀c,VRels I w ρ (List.replicate c z).flatten (List.replicate c zs).flatten
 |0=>by simp[VRels]
 |c+1=>by simp only[f8i,f7a];exact VRels.append hz (VRels.flatten_replicate hz c)
def a4l(E:Env)(n:Nat)(t:TypeId)(len cap:AV):Option (AV×Eff):=
 match E.und t,len,cap with
 |some (.slice ac),.int _ l,.int _ c=>
  match E.zero ac with
  |some z=>bif decide (0<=l)&&decide (l<=c)&&decide (c<=281474976710656)&&decide ((E.bytes ac:Int)*c<=281474976710656)&&Nat.blt 0 z.length then
   some (.slice n 0 l.toNat (some c.toNat),.new (.row z.length (List.replicate c.toNat z)))else none
  |none=>none
 |_,_,_=>none
theorem b1g{x:Int}(h0:0<=x)(h1:x<=281474976710656):IntKind.i64.wrap x=x:=by simp[IntKind.wrap,IntKind.signed,IntKind.bits];omega
theorem c05(ok:EnvOk E)(r:HRel E.G I K ρ h w)(hn:h n=none)(hρ:ρ n=none){t:TypeId}{len cap v:AV}{e:Eff}{cl cc:Value}(ha:a4l E n t len cap=some (v,e))
 (ak:VRel I w ρ len cl)(aY:VRel I w ρ cap cc):Val E I K ρ h n w (Instr.makeSlice t cl cc) v e:=by
 unfold a4l at ha;split at ha
 ·rename_i ac k1 l k2 c hu;cases hz:E.zero ac with
  |none=>simp[hz]at ha
  |some z=>
   simp only[hz]at ha;rw[cond_eq_ite]at ha;split at ha
   case isFalse=>cases ha
   rename_i hc;simp only[f1d,f2y,f4o]at hc;obtain⟨⟨⟨⟨h0,h1⟩,h2⟩,h3⟩,h4⟩:=hc;cases ha;simp only[VRel]at ak aY;subst ak aY;obtain⟨⟨de,bu⟩,_⟩:=ok.zero ac z hz;obtain⟨zv,e9,gu,bJ⟩:=a7m ok w hz;have cJ:=bJ I w;have eI:=VRels.length cJ;obtain⟨i,hi,qD,pJ⟩:=b39 ok w bu;have uv:IntKind.i64.wrap c=c:=b1g (by omega) h2;have iy:IntKind.i64.wrap l=l:=b1g h0 (by omega);have sy:(i.bytes:Int)*c<=281474976710656:=by rw[pJ];exact h3
   have dm:(i.bytes:Int)*l<=281474976710656:=Int.le_trans (Int.mul_le_mul_of_nonneg_left h1 (by omega)) sy;have gF:∀w',(zeroValue ac).run E.P w' = .ok zv w':=by intro w';obtain⟨_,i',z',jw,d8,_⟩:=ok.zero ac z hz;have:=e9;simp[zeroValue,typeInfo,jw,d8]at this⊢;exact this
   refine b0w (el:=ac) (k:=z.length) (aa:=List.replicate c.toNat z) (cells:=(Array.range (c.toNat*E.sz ac)).map (λi=>zv.cells[i%zv.cells.size]!))
    (mk:=λa=>.slice (some a) l.toNat c.toNat) r hn hρ h4 (by intro x hx;rw[f4t hx]) ?_ ⟨rfl,rfl,rfl,rfl⟩ ?_ ?_
   ·rw[show((Array.range (c.toNat*E.sz ac)).map (λi=>zv.cells[i%zv.cells.size]!)).toList=(List.replicate c.toNat zv.cells.toList).flatten by
     rw[<-a3w];simp only[f8q,Array.toList_range,f4p];rw[show E.sz ac=zv.cells.size by rw[<-gu,eI];simp];apply f4y;intro a _;rw[Array.getElem!_toList]]
    exact VRels.flatten_replicate (VRels.noRef_any cJ) _
   ·have pt:¬(c<0∨281474976710656<(i.bytes:Int)*c):=by omega
    have e1:(decide (c<0)||decide ((i.bytes:Int)*c>2^48)||decide (l<0)||decide (l>c))=false:=by simp only[Bool.or_eq_false_iff,decide_eq_false_iff_not];omega
    simp only[Instr.makeSlice,Sem.run_bind,a0c ok w hu,Result.andThen_ok,asInt,asIntOf,Sem.run_pure,hi,uv,iy];simp only[e1,f6t,f9d];by_cases bD:c.toNat*E.sz ac=0
    ·have:c.toNat=0:=by
      rcases Nat.mul_eq_zero.1 bD with h|h
      ·exact h
      ·omega
     have i9:∀f:Nat->Value,Array.map f (Array.range 0) = #[]:=by intro f;simp
     simp[a3a ok w bu,this,a4h];rw[i9,i9]
    ·simp[a3a ok w bu,bD,gF,a4h]
   ·intro w' ρ' h';simp only[VRel];exact⟨_,c.toNat,rfl,by omega,λq hq=>by cases hq;rfl,.inr ⟨_,h',by simp,by simp[gu]⟩⟩
 ·cases ha
def b62(k:Nat)(aa:List (List AV)):List (Nat×AV)->Option (List (List AV))
 | []=>some aa
 |(i,v)::al=>bif !v.isJunk&&v.cells.length==k&&Nat.blt i aa.length then b62 k (aa.set i v.cells) al else none
theorem b5f{k:Nat}:∀(aa:List (List AV)) (i:Nat) (cs:List AV),(∀r∈aa,r.length=k)->cs.length=k->i<aa.length->(aa.set i cs).flatten=splice aa.flatten (i*k) cs
 | [],i,cs,_,_,hi=>by simp at hi
 |r::aa,0,cs,hr,hc,_=>by
  have:r.length=cs.length:=by rw[hr r (by simp),hc]
  simp[splice,<-this]
 |r::aa,i+1,cs,hr,hc,hi=>by have hk:r.length=k:=hr r (by simp);have ih:=b5f aa i cs (λr kd=>hr r (by simp[kd])) hc (by simpa using hi);simp only[List.set_cons_succ,f7a,ih];unfold splice;rw[g0h,List.take_append,List.drop_append];have e1:r.take (i*k+k)=r:=f1k (by omega);have e2:r.drop (i*k+k+cs.length)=[]:=f9a (by omega);rw[e1,e2];rw[show i*k+k-r.length=i*k by omega,show i*k+k+cs.length-r.length=i*k+cs.length by omega];simp
theorem b8c{k:Nat}(len:Nat):∀{aq:List (Nat×AV)} {aa jO:List (List AV)},b62 k aa aq=some jO->(∀r∈aa,r.length=k)->aa.length=len->
 b2a (λi=>some (i*k,k)) aa.flatten aq=some jO.flatten∧(∀r∈jO,r.length=k)∧jO.length=len
 | [],aa,jO,hf,hr,ak=>by simp only[b62,Option.some.injEq]at hf;subst hf;exact⟨rfl,hr,ak⟩
 |(i,v)::al,aa,jO,hf,hr,ak=>by
  simp only[b62]at hf;rw[cond_eq_ite]at hf;split at hf
  case isFalse=>cases hf
  rename_i hc;simp only[f1d,f6z,f7u,f4o]at hc;obtain⟨⟨hj,hk⟩,hi⟩:=hc;have ih:=b8c len hf (by
   intro r kd;rcases f8d kd with h|h
   ·exact hr r h
   ·rw[h,hk]) (by simpa using ak)
  refine⟨?_,ih.2⟩;simp only[b2a];have bh:=a14 hr;have cG:Nat.ble (i*k+k) aa.flatten.length=true:=by rw[f7k,bh,<-g0h];exact f7j k hi
  simp only[hj,hk,cG,Bool.not_false,beq_self_eq_true,f7h,f2v];rw[<-b5f aa i v.cells hr hk hi];exact ih.1
def a3u(E:Env)(n:Nat)(t:TypeId)(len:Nat)(aq:List (Nat×AV)):Option (AV×Eff):=
 match E.und t with
 |some (.slice ac)=>match E.zero ac with
  |some z=>bif Nat.blt 0 z.length&&Nat.ble (len*z.length) 16777216 then
   match b62 z.length (List.replicate len z) aq with
   |some aa=>some (.slice n 0 len (some len),.new (.row z.length aa))
   |none=>none
   else none
  |none=>none
 |_=>none
theorem b6o(ok:EnvOk E)(r:HRel E.G I K ρ h w)(hn:h n=none)(hρ:ρ n=none){t:TypeId}{len:Nat}{aq:List (Nat×AV)}{cH:List (Nat×Value)}{v:AV}{e:Eff}
 (ha:a3u E n t len aq=some (v,e))(hp:a64 I w ρ aq cH):Val E I K ρ h n w (Instr.buildSlice t len cH.toArray) v e:=by
 unfold a3u at ha;split at ha
 ·rename_i ac hu;cases hz:E.zero ac with
  |none=>simp[hz]at ha
  |some z=>
   simp only[hz]at ha;rw[cond_eq_ite]at ha;split at ha
   case isFalse=>cases ha
   rename_i hc;simp only[f1d,f4o,f7k]at hc;split at ha
   case h_2=>cases ha
   rename_i aa aA;cases ha;obtain⟨⟨de,bu⟩,_⟩:=ok.zero ac z hz;obtain⟨zv,e9,gu,bJ⟩:=a7m ok w hz;have cJ:=bJ I w;have eI:=VRels.length cJ;simp only[f4p]at eI;obtain⟨pO,mp,ak⟩:=b8c len aA (by intro x hx;rw[f4t hx]) (by simp);have nD:VRels I w ρ (List.replicate len z).flatten ((Array.range (len*E.sz ac)).map (λi=>zv.cells[i%zv.cells.size]!)).toList:=by rw[show((Array.range (len*E.sz ac)).map (λi=>zv.cells[i%zv.cells.size]!)).toList=(List.replicate len zv.cells.toList).flatten by rw[<-a3w];simp only[f8q,Array.toList_range,f4p];rw[show E.sz ac=zv.cells.size by rw[<-gu,eI]];apply f4y;intro a _;rw[Array.getElem!_toList]];exact VRels.flatten_replicate (VRels.noRef_any cJ) _
   obtain⟨jh,h1,h2⟩:=b3p pO nD hp;refine b0w (el:=ac) (k:=z.length) (cells:=jh) (mk:=λa=>.slice (some a) len len) r hn hρ hc.1 mp h2 ⟨rfl,rfl,rfl,rfl⟩ ?_ ?_
   ·have bf:¬(len*E.sz ac>2^24):=by rw[<-gu];omega
    rw[gu]at h1;simp only[Instr.buildSlice,Sem.run_bind,a0c ok w hu,Result.andThen_ok,a3a ok w bu,bf,f9d];by_cases bD:len*E.sz ac=0
    ·have i9:∀f:Nat->Value,Array.map f (Array.range 0) = #[]:=by intro f;simp
     simp only[bD,f7i,i9]at h1⊢;simp[h1,a4h]
    ·simp only[bD,f9d,Sem.run_bind,e9,Result.andThen_ok,Sem.run_pure];simp[h1,a4h]
   ·intro w' ρ' h';simp only[VRel];exact⟨_,len,rfl,f2q _,λq hq=>by cases hq;rfl,.inr ⟨_,h',by simp,by
     have h3:len*z.length=jh.size:=by have:=VRels.length h2;rw[a14 mp,ak,f4p]at this;exact this
     show 0+(0+len)*z.length<=jh.size;rw[f2u,f2u,h3];exact f2q _⟩⟩
 ·cases ha
end
end Go.Ax
/- AxBin: arithmetic, comparisons, equality, conversions. -/
namespace Go.Ax
section
variable {E:Env}{I K:Nat->Prop}{ρ:PMap}{h:FHeap}{n:Nat}{w:World}
def c6w(op:BinOp)(k:IntKind)(a b:Int):Option AV:=
 match op with
 |.add=>some (.int k (k.wrap (a+b)))
 |.sub=>some (.int k (k.wrap (a-b)))
 |.mul=>some (.int k (k.wrap (a*b)))
 |.quo=>bif b==0 then none else some (.int k (k.wrap (a.tdiv b)))
 |.rem=>bif b==0 then none else some (.int k (a.tmod b))
 |.and=>some (.int k (k.wrap (BitVec.ofInt k.bits a&&&BitVec.ofInt k.bits b).toNat))
 |.or=>some (.int k (k.wrap (BitVec.ofInt k.bits a|||BitVec.ofInt k.bits b).toNat))
 |.xor=>some (.int k (k.wrap (BitVec.ofInt k.bits a^^^BitVec.ofInt k.bits b).toNat))
 |.andNot=>some (.int k (k.wrap (BitVec.ofInt k.bits a &&& ~~~ BitVec.ofInt k.bits b).toNat))
 |.eql=>some (.bool (a==b))
 |.neq=>some (.bool (a != b))
 |.lss=>some (.bool (decide (a<b)))
 |.leq=>some (.bool (decide (a<=b)))
 |.gtr=>some (.bool (decide (b<a)))
 |.geq=>some (.bool (decide (b<=a)))
 |_=>none
def e4n(op:BinOp)(a b:List UInt8):Option AV:=
 match op with
 |.add=>bif decide (a.length+b.length<=4611686018427387904)then some (.str (a++b))else none
 |.eql=>some (.bool (a==b))
 |.neq=>some (.bool (!(a==b)))
 |.lss=>some (.bool (Op.bytesLess a b))
 |.leq=>some (.bool (Op.bytesLess a b||a==b))
 |.gtr=>some (.bool (!(Op.bytesLess a b||a==b)))
 |.geq=>some (.bool (!(Op.bytesLess a b)))
 |_=>none
def a99(E:Env)(eq:TypeId->AV->AV->Option Bool):List Field->List AV->List AV->Option Bool
 | [],_,_=>some true
 |f::fs,xs,ys=>
  match a2r E f.type ((xs.drop f.offset).take (E.sz f.type)),a2r E f.type ((ys.drop f.offset).take (E.sz f.type))with
  |some a,some b=>match eq f.type a b,a99 E eq fs xs ys with
   |some p,some q=>some (p&&q)
   |_,_=>none
  |_,_=>none
def b1e(E:Env)(eq:TypeId->AV->AV->Option Bool)(ac:TypeId)(xs ys:List AV):Nat->Nat->Option Bool
 |_,0=>some true
 |i,m+1=>
  match a2r E ac ((xs.drop (i*E.sz ac)).take (E.sz ac)),a2r E ac ((ys.drop (i*E.sz ac)).take (E.sz ac))with
  |some a,some b=>match eq ac a b,b1e E eq ac xs ys (i+1) m with
   |some p,some q=>some (p&&q)
   |_,_=>none
  |_,_=>none
def a7h:TypeDesc->AV->Option Bool
 |.pointer _,.nilptr=>some true
 |.pointer _,.ptr ..=>some false
 |.pointer _,.iptr ..=>some false
 |.slice _,.nilslice=>some true
 |.slice _,.slice ..=>some false
 |.slice _,.islice ..=>some false
 |.map _ _,.nilmap=>some true
 |.map _ _,.map ..=>some false
 |.map _ _,.imap ..=>some false
 |.map _ _,.iset ..=>some false
 |.func _ _ _,.nilfunc=>some true
 |.func _ _ _,.func ..=>some false
 |_,_=>none
def a33:TypeDesc->AV->Bool
 |.pointer _,.nilptr=>true
 |.slice _,.nilslice=>true
 |.map _ _,.nilmap=>true
 |.func _ _ _,.nilfunc=>true
 |_,_=>false
def b6b:TypeDesc->Value
 |.pointer _=>.pointer none
 |.slice _=>.slice none 0 0
 |.map _ _=>.map none
 |_=>.nilFunc
def aeq(E:Env):Nat->TypeId->AV->AV->Option Bool
 |0,_,_,_=>none
 |d+1,t,x,y=>
  match E.und t,x,y with
  |some .bool,.bool a,.bool b=>some (a==b)
  |some (.int _),.int k a,.int k' b=>bif k==k' then some (a==b)else none
  |some .string,.str a,.str b=>some (a==b)
  |some (.struct fs),.agg xs,.agg ys=>bif E.eqok t then a99 E (aeq E d) fs.toList xs ys else none
  |some (.array len ac),.agg xs,.agg ys=>bif (E.und ac).isSome then b1e E (aeq E d) ac xs ys 0 len else none
  |some d,.nilptr,y=>bif a33 d .nilptr then a7h d y else none
  |some d,x,.nilptr=>bif a33 d .nilptr then a7h d x else none
  |some d,.nilslice,y=>bif a33 d .nilslice then a7h d y else none
  |some d,x,.nilslice=>bif a33 d .nilslice then a7h d x else none
  |some d,.nilmap,y=>bif a33 d .nilmap then a7h d y else none
  |some d,x,.nilmap=>bif a33 d .nilmap then a7h d x else none
  |some d,.nilfunc,y=>bif a33 d .nilfunc then a7h d y else none
  |some d,x,.nilfunc=>bif a33 d .nilfunc then a7h d x else none
  |some (.interface _),.nilifc,.iface _ _=>some false
  |some (.interface _),.iface _ _,.nilifc=>some false
  |some (.interface _),.iface t1 a,.iface t2 b=>bif t1==t2 then bif E.eqok t1 then aeq E d t1 a b else none else some false
  |_,_,_=>none
theorem b71(ok:EnvOk E){eq:TypeId->Value->Value->Sem Bool}{i7:TypeId->AV->AV->Option Bool}
 (cS:∀t a b ca cb p,i7 t a b=some p->VRel I w ρ a ca->VRel I w ρ b cb->(eq t ca cb).run E.P w = .ok p w)
 {xs ys:List AV}{cx cy:Array Value}(hx:VRels I w ρ xs cx.toList)(hy:VRels I w ρ ys cy.toList) :
 ∀(fs:List Field) (q:Bool),a99 E i7 fs xs ys=some q->(∀f∈fs,f.name≠ "_")->
  (forIn fs ((none,()):Option Bool×Unit) (λf _=>
   if f.name≠ "_" then do
    let a<-part f.type cx f.offset
    let b<-part f.type cy f.offset
    let c<-eq f.type a b
    if(!c)=true then pure (ForInStep.done (some false,()))else pure (ForInStep.yield (none,()))
   else pure (ForInStep.yield (none,())):Field->Option Bool×Unit->Sem (ForInStep (Option Bool×Unit)))).run E.P w
  = .ok (if q then(none,())else(some false,())) w
 | [],q,hq,_=>by simp only[a99,Option.some.injEq]at hq;subst hq;simp
 |f::fs,q,hq,hn=>by
  simp only[a99]at hq;split at hq
  case h_2=>cases hq
  rename_i a b ha hb;split at hq
  case h_2=>cases hq
  rename_i p q' hp jo;cases hq;obtain⟨ca,h1,h2⟩:=a9k ok ha hx;obtain⟨cb,h3,h4⟩:=a9k ok hb hy;have h5:=cS f.type a b ca cb p hp h2 h4;have ih:=b71 ok cS hx hy fs q' jo (λf hf=>hn f (by simp[hf]))
  have kh:f.name≠ "_" := hn f (by simp)
  rw[List.forIn_cons];simp only[ne_eq,kh,not_false_eq_true,f7i,Sem.run_bind,h1,h3,h5,Result.andThen_ok];cases p
  ·simp
  ·simp only[f8t,f6t,f9d,Sem.run_pure,Result.andThen_ok,f8f];exact ih
theorem c12(ok:EnvOk E){eq:TypeId->Value->Value->Sem Bool}{i7:TypeId->AV->AV->Option Bool}{ac:TypeId}
 (cS:∀t a b ca cb p,i7 t a b=some p->VRel I w ρ a ca->VRel I w ρ b cb->(eq t ca cb).run E.P w = .ok p w)
 {xs ys:List AV}{cx cy:Array Value}(hx:VRels I w ρ xs cx.toList)(hy:VRels I w ρ ys cy.toList) :
 ∀(m i:Nat) (q:Bool),b1e E i7 ac xs ys i m=some q->
  (forIn (List.range' i m) ((none,()):Option Bool×Unit) (λi _=>do
   let a<-part ac cx (i*E.sz ac)
   let b<-part ac cy (i*E.sz ac)
   let c<-eq ac a b
   if(!c)=true then pure (ForInStep.done (some false,()))else pure (ForInStep.yield (none,())):Nat->Option Bool×Unit->Sem (ForInStep (Option Bool×Unit)))).run E.P w
  = .ok (if q then(none,())else(some false,())) w
 |0,i,q,hq=>by simp only[b1e,Option.some.injEq]at hq;subst hq;simp
 |m+1,i,q,hq=>by
  simp only[b1e]at hq;split at hq
  case h_2=>cases hq
  rename_i a b ha hb;split at hq
  case h_2=>cases hq
  rename_i p q' hp jo;cases hq;obtain⟨ca,h1,h2⟩:=a9k ok ha hx;obtain⟨cb,h3,h4⟩:=a9k ok hb hy;have h5:=cS ac a b ca cb p hp h2 h4;have ih:=c12 ok cS hx hy m (i+1) q' jo;rw[List.range'_succ,List.forIn_cons];simp only[Sem.run_bind,h1,h3,h5,Result.andThen_ok];cases p
  ·simp
  ·simp only[f8t,f6t,f9d,Sem.run_pure,Result.andThen_ok,f8f];exact ih
section
variable {t:TypeId}{d:Nat}
theorem b9u{e:TypeId}(ht:(underlying t).run E.P w = .ok (.pointer e) w)(b:Option Addr):(Op.equalIn (d+1) t (.pointer none) (.pointer b)).run E.P w = .ok b.isNone w:=by unfold Op.equalIn;simp only[Sem.run_bind,ht,Result.andThen_ok];rfl
theorem b9t{e:TypeId}(ht:(underlying t).run E.P w = .ok (.pointer e) w)(b:Option Addr):(Op.equalIn (d+1) t (.pointer b) (.pointer none)).run E.P w = .ok b.isNone w:=by unfold Op.equalIn;simp only[Sem.run_bind,ht,Result.andThen_ok];cases b<;>rfl
theorem b24{e:TypeId}(ht:(underlying t).run E.P w = .ok (.slice e) w)(b:Option Addr)(l c:Nat):(Op.equalIn (d+1) t (.slice none 0 0) (.slice b l c)).run E.P w = .ok b.isNone w:=by unfold Op.equalIn;simp only[Sem.run_bind,ht,Result.andThen_ok];rfl
theorem b23{e:TypeId}(ht:(underlying t).run E.P w = .ok (.slice e) w)(b:Option Addr)(l c:Nat):(Op.equalIn (d+1) t (.slice b l c) (.slice none 0 0)).run E.P w = .ok b.isNone w:=by unfold Op.equalIn;simp only[Sem.run_bind,ht,Result.andThen_ok];cases b<;>rfl
theorem b3m{k e:TypeId}(ht:(underlying t).run E.P w = .ok (.map k e) w)(b:Option Nat):(Op.equalIn (d+1) t (.map none) (.map b)).run E.P w = .ok b.isNone w:=by unfold Op.equalIn;simp only[Sem.run_bind,ht,Result.andThen_ok];rfl
theorem b3l{k e:TypeId}(ht:(underlying t).run E.P w = .ok (.map k e) w)(b:Option Nat):(Op.equalIn (d+1) t (.map b) (.map none)).run E.P w = .ok b.isNone w:=by unfold Op.equalIn;simp only[Sem.run_bind,ht,Result.andThen_ok];cases b<;>rfl
theorem c2c{ps rs:Array TypeId}{v:Bool}(ht:(underlying t).run E.P w = .ok (.func ps rs v) w):(Op.equalIn (d+1) t .nilFunc .nilFunc).run E.P w = .ok true w:=by unfold Op.equalIn;simp only[Sem.run_bind,ht,Result.andThen_ok];rfl
theorem d3g{ps rs:Array TypeId}{v:Bool}(ht:(underlying t).run E.P w = .ok (.func ps rs v) w)(f:Fn)(a b:Array Value):(Op.equalIn (d+1) t .nilFunc (.func f a b)).run E.P w = .ok false w:=by unfold Op.equalIn;simp only[Sem.run_bind,ht,Result.andThen_ok];rfl
theorem d3f{ps rs:Array TypeId}{v:Bool}(ht:(underlying t).run E.P w = .ok (.func ps rs v) w)(f:Fn)(a b:Array Value):(Op.equalIn (d+1) t (.func f a b) .nilFunc).run E.P w = .ok false w:=by unfold Op.equalIn;simp only[Sem.run_bind,ht,Result.andThen_ok];rfl
theorem d4m{dd:TypeDesc}{y:AV}{q:Bool}{c:Value}(ht:(underlying t).run E.P w = .ok dd w)(hq:a7h dd y=some q)(hy:VRel I w ρ y c) :
 (Op.equalIn (d+1) t (b6b dd) c).run E.P w = .ok q w∧(Op.equalIn (d+1) t c (b6b dd)).run E.P w = .ok q w:=by
 unfold a7h at hq;split at hq<;>cases hq<;>simp only[VRel]at hy<;>simp only[b6b]
 ·subst hy;exact⟨b9u ht _,b9t ht _⟩
 ·obtain⟨_,_,rfl⟩:=hy;exact⟨b9u ht _,b9t ht _⟩
 ·obtain⟨_,_,rfl,_⟩:=hy;exact⟨b9u ht _,b9t ht _⟩
 ·subst hy;exact⟨b24 ht _ _ _,b23 ht _ _ _⟩
 ·obtain⟨_,_,rfl,_⟩:=hy;exact⟨b24 ht _ _ _,b23 ht _ _ _⟩
 ·obtain⟨_,_,_,rfl,_⟩:=hy;exact⟨b24 ht _ _ _,b23 ht _ _ _⟩
 ·subst hy;exact⟨b3m ht _,b3l ht _⟩
 ·obtain⟨_,_,rfl⟩:=hy;exact⟨b3m ht _,b3l ht _⟩
 ·obtain⟨_,_,rfl,_⟩:=hy;exact⟨b3m ht _,b3l ht _⟩
 ·obtain⟨_,_,_,rfl,_⟩:=hy;exact⟨b3m ht _,b3l ht _⟩
 ·subst hy;exact⟨c2c ht,c2c ht⟩
 ·obtain⟨_,_,rfl,_⟩:=hy;exact⟨d3g ht _ _ _,d3f ht _ _ _⟩
theorem d7k(ht:(underlying t).run E.P w = .ok .bool w)(a b:Bool):(Op.equalIn (d+1) t (.bool a) (.bool b)).run E.P w = .ok (a==b) w:=by unfold Op.equalIn;simp only[Sem.run_bind,ht,Result.andThen_ok];rfl
theorem e2g{k0:IntKind}(ht:(underlying t).run E.P w = .ok (.int k0) w)(k:IntKind)(a b:Int):(Op.equalIn (d+1) t (.int k a) (.int k b)).run E.P w = .ok (a==b) w:=by unfold Op.equalIn;simp only[Sem.run_bind,ht,Result.andThen_ok,f7i];rfl
theorem e2f(ht:(underlying t).run E.P w = .ok .string w)(a b:ByteArray):(Op.equalIn (d+1) t (.string a) (.string b)).run E.P w = .ok (a==b) w:=by unfold Op.equalIn;simp only[Sem.run_bind,ht,Result.andThen_ok];rfl
theorem b81{ms:Array (String×TypeId)}(ht:(underlying t).run E.P w = .ok (.interface ms) w)(u:TypeId)(x:Value) :
 (Op.equalIn (d+1) t .nilIface (.iface u x)).run E.P w = .ok false w∧(Op.equalIn (d+1) t (.iface u x) .nilIface).run E.P w = .ok false w:=by
 unfold Op.equalIn;simp only[Sem.run_bind,ht,Result.andThen_ok];exact⟨rfl,rfl⟩
theorem c8v{ms:Array (String×TypeId)}(ht:(underlying t).run E.P w = .ok (.interface ms) w)(u u':TypeId)(x x':Value)(aw:u≠u') :
 (Op.equalIn (d+1) t (.iface u x) (.iface u' x')).run E.P w = .ok false w:=by
 unfold Op.equalIn;simp only[Sem.run_bind,ht,Result.andThen_ok,ne_eq,aw,not_false_eq_true,f7i];rfl
theorem e2h{ms:Array (String×TypeId)}{i:TypeInfo}(ht:(underlying t).run E.P w = .ok (.interface ms) w)(u:TypeId)(x x':Value)(hi:(typeInfo u).run E.P w = .ok i w)(hc:i.comparable=true) :
 (Op.equalIn (d+1) t (.iface u x) (.iface u x')).run E.P w=(Op.equalIn d u x x').run E.P w:=by
 conv=>lhs;unfold Op.equalIn
 simp only[Sem.run_bind,ht,Result.andThen_ok,ne_eq,not_true_eq_false,f9d,hi,hc,f8t,f6t]
end
theorem b5w(a b:ByteArray):(a==b)=(a.data.toList==b.data.toList):=by have e:(a==b)=(a.data==b.data):=rfl;rw[e,g0i];simp only[f7u,Array.toList_inj]
theorem c6x(ok:EnvOk E):∀(d:Nat) {t:TypeId} {x y:AV} {q:Bool} {cx cy:Value},aeq E d t x y=some q->VRel I w ρ x cx->VRel I w ρ y cy->
 ∀D,d<=D->(Op.equalIn D t cx cy).run E.P w = .ok q w
 |0,t,x,y,q,cx,cy,hq,hx,hy,D,hD=>by simp[aeq]at hq
 |d+1,t,x,y,q,cx,cy,hq,hx,hy,D,hD=>by
  obtain⟨D,rfl⟩:∃D',D=D'+1:=⟨D-1,by omega⟩
  unfold aeq at hq;have cw:∀{dd:TypeDesc} {z nz:AV} {c:Value},E.und t=some dd->(bif a33 dd nz then a7h dd z else none)=some q->VRel I w ρ z c->
   a33 dd nz=true∧(Op.equalIn (D+1) t (b6b dd) c).run E.P w = .ok q w∧(Op.equalIn (D+1) t c (b6b dd)).run E.P w = .ok q w:=by
   intro dd z nz c hu hb hz;cases hk:a33 dd nz with
   |false=>rw[hk]at hb;cases hb
   |true=>rw[hk,f2v]at hb;exact⟨rfl,d4m (a0c ok w hu) hb hz⟩
  have gD:∀{dd:TypeDesc},(a33 dd .nilptr=true->b6b dd = .pointer none)∧(a33 dd .nilslice=true->b6b dd = .slice none 0 0)∧
   (a33 dd .nilmap=true->b6b dd = .map none)∧(a33 dd .nilfunc=true->b6b dd = .nilFunc):=by
   intro dd;cases dd<;>simp[a33,b6b]
  split at hq
  ·rename_i hu;simp only[VRel]at hx hy;subst hx hy;cases hq;exact d7k (a0c ok w hu) _ _
  ·rename_i hu;simp only[VRel]at hx hy;subst hx hy;rw[cond_eq_ite]at hq;split at hq
   ·rename_i hk;cases hq;have hk:=eq_of_beq hk;subst hk;exact e2g (a0c ok w hu) _ _ _
   ·cases hq
  ·rename_i hu;simp only[VRel]at hx hy;obtain⟨a,rfl,ha⟩:=hx;obtain⟨b,rfl,hb⟩:=hy;cases hq;rw[e2f (a0c ok w hu),b5w,ha,hb]
  ·rename_i fs xs ys hu;simp only[VRel]at hx hy;obtain⟨ax,rfl,hx⟩:=hx;obtain⟨ay,rfl,hy⟩:=hy;rw[cond_eq_ite]at hq;split at hq
   case isFalse=>cases hq
   rename_i he;obtain⟨_,az,_,iJ⟩:=ok.eqok t he;have hf:=b71 (I:=I) (w:=w) (ρ:=ρ) ok (eq:=Op.equalIn D) (i7:=aeq E d) (λt a b ca cb p hp h1 h2=>c6x ok d hp h1 h2 D (by omega)) hx hy fs.toList q hq (λf hf=>iJ fs hu f hf);unfold Op.equalIn;simp only[Sem.run_bind,a0c ok w hu,Result.andThen_ok,run_program,az,f6t,f9d];rw[<-Array.forIn_toList];rw[hf];cases q<;>rfl
  ·rename_i len ac xs ys hu;simp only[VRel]at hx hy;obtain⟨ax,rfl,hx⟩:=hx;obtain⟨ay,rfl,hy⟩:=hy;rw[cond_eq_ite]at hq;split at hq
   case isFalse=>cases hq
   rename_i he;obtain⟨de,bu⟩:=f1j.1 he;have hf:=c12 (I:=I) (w:=w) (ρ:=ρ) ok (eq:=Op.equalIn D) (i7:=aeq E d) (ac:=ac) (λt a b ca cb p hp h1 h2=>c6x ok d hp h1 h2 D (by omega)) hx hy len 0 q hq;unfold Op.equalIn;simp only[Sem.run_bind,a0c ok w hu,Result.andThen_ok,a3a ok w bu];rw[Std.Legacy.Range.forIn_eq_forIn_range'];have cj:(Std.Legacy.Range.size [:len])=len:=by simp[Std.Legacy.Range.size]
   simp only[cj];rw[hf];cases q<;>rfl
  ·simp only[VRel]at hx;subst hx;obtain⟨h1,h2,_⟩:=cw (by assumption) hq hy;rw[gD.1 h1]at h2;exact h2
  ·simp only[VRel]at hy;subst hy;obtain⟨h1,_,h2⟩:=cw (by assumption) hq hx;rw[gD.1 h1]at h2;exact h2
  ·simp only[VRel]at hx;subst hx;obtain⟨h1,h2,_⟩:=cw (by assumption) hq hy;rw[gD.2.1 h1]at h2;exact h2
  ·simp only[VRel]at hy;subst hy;obtain⟨h1,_,h2⟩:=cw (by assumption) hq hx;rw[gD.2.1 h1]at h2;exact h2
  ·simp only[VRel]at hx;subst hx;obtain⟨h1,h2,_⟩:=cw (by assumption) hq hy;rw[gD.2.2.1 h1]at h2;exact h2
  ·simp only[VRel]at hy;subst hy;obtain⟨h1,_,h2⟩:=cw (by assumption) hq hx;rw[gD.2.2.1 h1]at h2;exact h2
  ·simp only[VRel]at hx;subst hx;obtain⟨h1,h2,_⟩:=cw (by assumption) hq hy;rw[gD.2.2.2 h1]at h2;exact h2
  ·simp only[VRel]at hy;subst hy;obtain⟨h1,_,h2⟩:=cw (by assumption) hq hx;rw[gD.2.2.2 h1]at h2;exact h2
  ·rename_i hu;simp only[VRel]at hx hy;subst hx;obtain⟨x',rfl,_⟩:=hy;cases hq;exact(b81 (a0c ok w hu) _ _).1
  ·rename_i hu;simp only[VRel]at hx hy;subst hy;obtain⟨x',rfl,_⟩:=hx;cases hq;exact(b81 (a0c ok w hu) _ _).2
  ·rename_i hu;simp only[VRel]at hx hy;obtain⟨x',rfl,hx⟩:=hx;obtain⟨y',rfl,hy⟩:=hy;rw[cond_eq_ite]at hq;split at hq
   ·rename_i he;have he:=eq_of_beq he;subst he;rw[cond_eq_ite]at hq;split at hq
    case isFalse=>cases hq
    rename_i hk;obtain⟨_,_,⟨i,hi,hc⟩,_⟩:=ok.eqok _ hk;rw[e2h (i:=i) (a0c ok w hu) _ _ _ (by simp[typeInfo,hi]) hc];exact c6x ok d hq hx hy D (by omega)
   ·rename_i aw;cases hq;exact c8v (a0c ok w hu) _ _ _ _ (by simpa using aw)
  ·cases hq
end
end Go.Ax
/- AxOp1: the model's binary and unary operations and conversions, against the abstract ones. -/
namespace Go.Ax
section
variable {E:Env}{I K:Nat->Prop}{ρ:PMap}{h:FHeap}{n:Nat}{w:World}
theorem e3b{op:BinOp}{k:IntKind}{a b:Int}{v:AV}(hv:c6w op k a b=some v)(t:TypeId)(hs:op≠ .shl∧op≠ .shr) :
 ∃c,(binOp op t (.int k a) (.int k b)).run E.P w = .ok c w∧VRel I w ρ v c:=by
 cases op<;>simp only[c6w]at hv
 case shl=>cases hv
 case shr=>cases hv
 case quo=>
  rw[cond_eq_ite]at hv;split at hv
  ·cases hv
  ·rename_i hb;cases hv;have hb:b≠0:=by simpa using hb
   exact⟨_,by simp[binOp,Op.intDiv,hb];rfl,by simp[VRel]⟩
 case rem=>
  rw[cond_eq_ite]at hv;split at hv
  ·cases hv
  ·rename_i hb;cases hv;have hb:b≠0:=by simpa using hb
   exact⟨_,by simp[binOp,Op.intDiv,hb];rfl,by simp[VRel]⟩
 all_goals cases hv
 all_goals exact⟨_,by simp[binOp,Op.intArith,Op.intBits,Op.intCmp];rfl,by simp[VRel]⟩
theorem e2z{op:BinOp}{a b:ByteArray}{v:AV}(hv:e4n op a.data.toList b.data.toList=some v)(t:TypeId) :
 ∃c,(binOp op t (.string a) (.string b)).run E.P w = .ok c w∧VRel I w ρ v c:=by
 have ta:=ByteArray.toList_eq a;have tb:=ByteArray.toList_eq b;cases op<;>simp only[e4n]at hv
 case add=>
  rw[cond_eq_ite]at hv;split at hv
  case isFalse=>cases hv
  rename_i hl;cases hv;have hl:a.data.toList.length+b.data.toList.length<=4611686018427387904:=by simpa using hl
  have h1:¬(((a.size+b.size:Nat):Int)>IntKind.i64.max):=by simp only[f4p]at hl;have:a.size=a.data.size:=rfl;have:b.size=b.data.size:=rfl;simp only[IntKind.max,IntKind.signed,IntKind.bits];simp;omega
  refine⟨.string (a++b),?_,by simp only[VRel];exact⟨_,rfl,by simp[ByteArray.data_append]⟩⟩;simp only[binOp,Op.stringOp,h1,f9d,Sem.run_pure]
 all_goals cases hv
 all_goals
  refine⟨_,by simp only[binOp,Op.stringOp,ta,tb,Sem.run_pure];rfl,by simp[VRel]⟩
def AV.eqShape:AV->Bool
 |.bool _|.nilptr|.nilslice|.nilmap|.nilfunc|.nilifc|.ptr ..|.iptr ..|.slice ..|.islice ..|.map ..|.imap ..|.iset _|.yfn _|.func ..|.iface ..|.agg ..=>true
 |_=>false
def b2d(E:Env)(op:BinOp)(t:TypeId)(x y:AV)(qR:Bool):Option AV:=
 match op,x,y with
 |.shl,.int k a,.int _ b=>bif decide (b<0)then none else some (.int k (k.wrap (a*2^(min b.toNat k.bits))))
 |.shr,.int k a,.int _ b=>bif decide (b<0)then none else some (.int k (a.fdiv (2^(min b.toNat k.bits))))
 |op,.int k a,.int k' b=>bif k==k' then c6w op k a b else none
 |op,.str a,.str b=>e4n op a b
 |.eql,.nilifc,.nilifc=>match E.und t with|some (.interface _)=>bif qR then some (.bool true)else none|_=>none
 |.neq,.nilifc,.nilifc=>match E.und t with|some (.interface _)=>bif qR then some (.bool false)else none|_=>none
 |.eql,.agg a,.agg b=>bif E.eqok t then(aeq E 6 t (.agg a) (.agg b)).map .bool else none
 |.neq,.agg a,.agg b=>bif E.eqok t then(aeq E 6 t (.agg a) (.agg b)).map (λq=>.bool (!q))else none
 |.eql,x,y=>bif x.eqShape then(aeq E 6 t x y).map .bool else none
 |.neq,x,y=>bif x.eqShape then(aeq E 6 t x y).map (λq=>.bool (!q))else none
 |_,_,_=>none
def Value.eqShape:Value->Bool
 |.bool _|.pointer _|.slice ..|.map _|.func ..|.nilFunc|.iface ..|.nilIface|.agg _=>true
 |_=>false
theorem VRel.eqShape{x:AV}{c:Value}(hx:VRel I w ρ x c)(hs:x.eqShape=true):Value.eqShape c=true:=by
 cases x<;>simp[AV.eqShape]at hs<;>simp only[VRel]at hx
 all_goals first
  |(subst hx;rfl)
  |(obtain⟨_,rfl,_⟩:=hx;rfl)
  |(obtain⟨_,_,rfl⟩:=hx;rfl)
  |(obtain⟨_,_,rfl,_⟩:=hx;rfl)
  |(obtain⟨_,_,_,rfl,_⟩:=hx;rfl)
theorem b5z(t:TypeId)(cx cy:Value)(hs:Value.eqShape cx=true):binOp .eql t cx cy=(do pure (.bool (<-Op.equal t cx cy))):=by cases cx<;>simp[Value.eqShape]at hs<;>first|rfl|(cases cy<;>rfl)
theorem b5y(t:TypeId)(cx cy:Value)(hs:Value.eqShape cx=true):binOp .neq t cx cy=(do pure (.bool (!(<-Op.equal t cx cy)))):=by cases cx<;>simp[Value.eqShape]at hs<;>first|rfl|(cases cy<;>rfl)
def a8u:Value->Value->Bool
 |.nilIface,.nilIface=>false
 |.agg _,.agg _=>false
 |_,_=>true
theorem a7u(op:BinOp)(t:TypeId)(x y:Operand)(a b:Value)(hf:op≠ .eql∧op≠ .neq):(eqGuard op t x y a b).run E.P w = .ok () w:=by unfold eqGuard;cases op<;>first|rfl|(exact absurd rfl hf.1)|(exact absurd rfl hf.2)
theorem a4j(op:BinOp)(t:TypeId)(x y:Operand)(a b:Value)(hf:a8u a b=true):(eqGuard op t x y a b).run E.P w = .ok () w:=by
 by_cases eD:op≠ .eql∧op≠ .neq
 ·exact a7u op t x y a b eD
 ·have:op = .eql∨op = .neq:=by cases op<;>simp at eD⊢
  unfold a8u at hf;rcases this with rfl|rfl
  all_goals
   unfold eqGuard;simp only[f8t,f6t,f9d];split
   ·simp at hf
   ·simp at hf
   ·rfl
theorem b5m(ok:EnvOk E)(op:BinOp)(t:TypeId)(x y:Operand)(a b:Array Value)(hf:E.eqok t=true):(eqGuard op t x y (.agg a) (.agg b)).run E.P w = .ok () w:=by
 by_cases eD:op≠ .eql∧op≠ .neq
 ·exact a7u op t x y _ _ eD
 ·have:op = .eql∨op = .neq:=by cases op<;>simp at eD⊢
  rcases this with rfl|rfl
  all_goals
   unfold eqGuard;simp only[f8t,f6t,f9d,Sem.run_bind,run_program,Result.andThen_ok,(ok.eqok t hf).1,Bool.not_false,f7i];rfl
def a4y:Operand->Bool
 |.const _=>true
 |_=>false
theorem b5l(op:BinOp)(t:TypeId)(x y:Operand)(hc:(a4y x||a4y y)=true):(eqGuard op t x y .nilIface .nilIface).run E.P w = .ok () w:=by
 by_cases eD:op≠ .eql∧op≠ .neq
 ·exact a7u op t x y _ _ eD
 ·have:op = .eql∨op = .neq:=by cases op<;>simp at eD⊢
  rcases this with rfl|rfl
  all_goals
   unfold eqGuard;cases x<;>cases y<;>simp[a4y]at hc<;>rfl
theorem b2r(ok:EnvOk E){t:TypeId}{ms:Array (String×TypeId)}(hu:E.und t=some (.interface ms)):(Op.equal t .nilIface .nilIface).run E.P w = .ok true w:=by unfold Op.equal Op.maxDepth Op.equalIn;simp only[Sem.run_bind,a0c ok w hu,Result.andThen_ok];rfl
theorem b2p{x y:AV}{cx cy:Value}(hx:VRel I w ρ x cx)(hy:VRel I w ρ y cy)(hs:x.eqShape=true)(h1:¬(x = .nilifc∧(y = .nilifc∨y = .junk)))
 (h2:∀a,x = .agg a->(∀b,y≠ .agg b)∧y≠ .junk):a8u cx cy=true:=by
 have gk:=VRel.eqShape hx hs;cases x<;>simp[AV.eqShape]at hs<;>simp only[VRel]at hx
 case nilifc=>subst hx;cases cy<;>simp[a8u];cases y<;>simp only[VRel]at hy<;>first|(simp at hy;done)|(exact h1 ⟨rfl,by simp⟩)|(obtain⟨_,h,_⟩:=hy;simp at h;done)|(obtain⟨_,_,h⟩:=hy;simp at h;done)|(obtain⟨_,_,h,_⟩:=hy;simp at h;done)|(obtain⟨_,_,_,h,_⟩:=hy;simp at h;done)
 case agg a=>obtain⟨ca,rfl,_⟩:=hx;obtain⟨h3,h4⟩:=h2 a rfl;cases cy<;>simp[a8u];cases y<;>simp only[VRel]at hy<;>first|(simp at hy;done)|(exact h4 rfl)|(exact h3 _ rfl)|(obtain⟨_,h,_⟩:=hy;simp at h;done)|(obtain⟨_,_,h⟩:=hy;simp at h;done)|(obtain⟨_,_,h,_⟩:=hy;simp at h;done)|(obtain⟨_,_,_,h,_⟩:=hy;simp at h;done)
 all_goals first
  |(subst hx;rfl)
  |(obtain⟨_,rfl,_⟩:=hx;rfl)
  |(obtain⟨_,_,rfl⟩:=hx;rfl)
  |(obtain⟨_,_,rfl,_⟩:=hx;rfl)
  |(obtain⟨_,_,_,rfl,_⟩:=hx;rfl)
theorem a5i{α β:Type}{x:Sem α}{y:Sem β}{a:α}{P:Program}{w w':World}(hx:x.run P w = .ok a w'):(do let _<-x;y).run P w=y.run P w':=by simp[hx]
theorem a5q(ok:EnvOk E){t:TypeId}{x y:AV}{q:Bool}{cx cy:Value}(hq:aeq E 6 t x y=some q)(hx:VRel I w ρ x cx)(hy:VRel I w ρ y cy) :
 (Op.equal t cx cy).run E.P w = .ok q w:=c6x ok 6 hq hx hy 10000 (by omega)
theorem c6y{d:Nat}{t:TypeId}{x:AV}:aeq E d t x .junk=none:=by
 cases d with
 |zero=>rfl
 |succ d=>
  unfold aeq;split<;>first|rfl|skip
  all_goals simp_all[a7h]
  all_goals (cases h:a33 _ _<;>simp[a7h])
theorem e3l(ok:EnvOk E){op:BinOp}{t:TypeId}{x y v:AV}{xo yo:Operand}{cx cy:Value}(hv:b2d E op t x y (a4y xo||a4y yo)=some v)
 (hx:VRel I w ρ x cx)(hy:VRel I w ρ y cy):∃c,(do eqGuard op t xo yo cx cy;binOp op t cx cy).run E.P w = .ok c w∧VRel I w ρ v c:=by
 unfold b2d at hv;split at hv
 ·simp only[VRel]at hx hy;subst hx hy;rw[cond_eq_ite]at hv;split at hv
  ·cases hv
  ·rename_i hb;cases hv;rw[a5i (a4j _ _ _ _ _ _ rfl)];simp only[f2y]at hb;exact⟨_,by simp[binOp,Op.shift,hb];rfl,by simp[VRel]⟩
 ·simp only[VRel]at hx hy;subst hx hy;rw[cond_eq_ite]at hv;split at hv
  ·cases hv
  ·rename_i hb;cases hv;rw[a5i (a4j _ _ _ _ _ _ rfl)];simp only[f2y]at hb;exact⟨_,by simp[binOp,Op.shift,hb];rfl,by simp[VRel]⟩
 ·rename_i h1 h2;simp only[VRel]at hx hy;subst hx hy;rw[cond_eq_ite]at hv;split at hv
  case isFalse=>cases hv
  rename_i hk;have hk:=eq_of_beq hk;subst hk;rw[a5i (a4j _ _ _ _ _ _ rfl)];exact e3b hv t ⟨by rintro rfl;simp_all,by rintro rfl;simp_all⟩
 ·simp only[VRel]at hx hy;obtain⟨a,rfl,ha⟩:=hx;obtain⟨b,rfl,hb⟩:=hy;rw[a5i (a4j _ _ _ _ _ _ rfl)];subst ha hb;exact e2z hv t
 ·simp only[VRel]at hx hy;subst hx hy;split at hv
  case h_2=>cases hv
  rename_i ms hu;rw[cond_eq_ite]at hv;split at hv
  case isFalse=>cases hv
  rename_i hc;cases hv;rw[a5i (b5l _ _ _ _ hc),b5z _ _ _ rfl];exact⟨.bool true,by simp[b2r ok hu],by simp[VRel]⟩
 ·simp only[VRel]at hx hy;subst hx hy;split at hv
  case h_2=>cases hv
  rename_i ms hu;rw[cond_eq_ite]at hv;split at hv
  case isFalse=>cases hv
  rename_i hc;cases hv;rw[a5i (b5l _ _ _ _ hc),b5y _ _ _ rfl];exact⟨.bool false,by simp[b2r ok hu],by simp[VRel]⟩
 ·rename_i a b;rw[cond_eq_ite]at hv;split at hv
  case isFalse=>cases hv
  rename_i he;cases hq:aeq E 6 t (.agg a) (.agg b)with
  |none=>simp[hq]at hv
  |some q=>simp only[hq,f2k,Option.some.injEq]at hv;subst hv;have cS:=a5q ok hq hx hy;simp only[VRel]at hx hy;obtain⟨ca,rfl,_⟩:=hx;obtain⟨cb,rfl,_⟩:=hy;rw[a5i (b5m ok _ _ _ _ _ _ he),b5z _ _ _ rfl];exact⟨.bool q,by simp[cS],by simp[VRel]⟩
 ·rename_i a b;rw[cond_eq_ite]at hv;split at hv
  case isFalse=>cases hv
  rename_i he;cases hq:aeq E 6 t (.agg a) (.agg b)with
  |none=>simp[hq]at hv
  |some q=>simp only[hq,f2k,Option.some.injEq]at hv;subst hv;have cS:=a5q ok hq hx hy;simp only[VRel]at hx hy;obtain⟨ca,rfl,_⟩:=hx;obtain⟨cb,rfl,_⟩:=hy;rw[a5i (b5m ok _ _ _ _ _ _ he),b5y _ _ _ rfl];exact⟨.bool (!q),by simp[cS],by simp[VRel]⟩
 ·rename_i cC jv oq mn;rw[cond_eq_ite]at hv;split at hv
  case isFalse=>cases hv
  rename_i he;cases hq:aeq E 6 t x y with
  |none=>simp[hq]at hv
  |some q=>
   simp only[hq,f2k,Option.some.injEq]at hv;subst hv;have cS:=a5q ok hq hx hy;have gT:y≠ .junk:=by rintro rfl;rw[c6y]at hq;cases hq
   have hg:=b2p hx hy he (by
    rintro⟨rfl,h|h⟩
    ·subst h;simp_all
    ·exact gT h) (by
    rintro a rfl
    exact⟨λb hb=>by subst hb;simp_all,gT⟩)
   rw[a5i (a4j _ _ _ _ _ _ hg),b5z _ _ _ (VRel.eqShape hx he)];exact⟨.bool q,by simp[cS],by simp[VRel]⟩
 ·rename_i cC jv oq mn;rw[cond_eq_ite]at hv;split at hv
  case isFalse=>cases hv
  rename_i he;cases hq:aeq E 6 t x y with
  |none=>simp[hq]at hv
  |some q=>
   simp only[hq,f2k,Option.some.injEq]at hv;subst hv;have cS:=a5q ok hq hx hy;have gT:y≠ .junk:=by rintro rfl;rw[c6y]at hq;cases hq
   have hg:=b2p hx hy he (by
    rintro⟨rfl,h|h⟩
    ·subst h;simp_all
    ·exact gT h) (by
    rintro a rfl
    exact⟨λb hb=>by subst hb;simp_all,gT⟩)
   rw[a5i (a4j _ _ _ _ _ _ hg),b5y _ _ _ (VRel.eqShape hx he)];exact⟨.bool (!q),by simp[cS],by simp[VRel]⟩
 ·cases hv
def aun(op:UnOp)(x:AV):Option AV:=
 match op,x with
 |.neg,.int k a=>some (.int k (k.wrap (0-a)))
 |.not,.bool b=>some (.bool (!b))
 |.xor,.int k a=>some (.int k (k.wrap (BitVec.ofInt k.bits (if k.signed then -1 else k.max)^^^BitVec.ofInt k.bits a).toNat))
 |_,_=>none
theorem e7o{op:UnOp}{x v:AV}{c:Value}(hv:aun op x=some v)(hx:VRel I w ρ x c):∃d,(Op.unary op c).run E.P w = .ok d w∧VRel I w ρ v d:=by
 unfold aun at hv;split at hv
 all_goals first|(cases hv;done)|skip
 all_goals simp only[VRel]at hx;subst hx;cases hv
 ·exact⟨_,by simp[Op.unary,Op.intArith];rfl,by simp[VRel]⟩
 ·exact⟨_,by simp[Op.unary];rfl,by simp[VRel]⟩
 ·exact⟨_,by simp[Op.unary,Op.intBits];rfl,by simp[VRel]⟩
def d8i(E:Env)(kO dst:TypeId)(x:AV):Option AV:=
 match E.und kO,E.und dst,x with
 |some _,some (.int k),.int _ n=>some (.int k (k.wrap n))
 |some .string,some .string,.str s=>some (.str s)
 |_,_,_=>none
theorem d8h(ok:EnvOk E){kO dst:TypeId}{x v:AV}{c:Value}(hv:d8i E kO dst x=some v)(hx:VRel I w ρ x c):∃d,(convert kO dst c).run E.P w = .ok d w∧VRel I w ρ v d:=by
 unfold d8i at hv;split at hv
 ·rename_i hs hd;simp only[VRel]at hx;subst hx;cases hv;exact⟨_,by simp[convert,a0c ok w hs,a0c ok w hd,Conv.intToInt];rfl,by simp[VRel]⟩
 ·rename_i hs hd;simp only[VRel]at hx;obtain⟨t,rfl,ht⟩:=hx;cases hv;exact⟨.string t,by simp[convert,a0c ok w hs,a0c ok w hd],by simp only[VRel];exact⟨t,rfl,ht⟩⟩
 ·cases hv
end
end Go.Ax
/- AxApp: append. -/
namespace Go.Ax
section
variable {E:Env}{I K:Nat->Prop}{ρ:PMap}{h:FHeap}{n:Nat}{w:World}
def a2h(h:FHeap)(k:Nat):AV->Option (List (List AV))
 |.nilslice=>some []
 |.islice aa _=>bif aa.all (λr=>r.length==k)then some aa else none
 |.slice b off len _=>match h b with
  |some (.row k' aa)=>bif k'==k&&Nat.ble (off+len) aa.length then some ((aa.drop off).take len)else none
  |_=>none
 |.str s=>bif k==1 then some (s.map λb=>[.int .u8 b.toNat])else none
 |_=>none
theorem b04:∀l:List UInt8,VRels I w ρ (l.map λb=>[AV.int .u8 b.toNat]).flatten (l.map λb=>Value.int .u8 b.toNat)
 | []=>by simp[VRels]
 |b::l=>by simp only[f1a,f7a,f2o,f1e,VRels];exact⟨_,_,rfl,by simp[VRel],b04 l⟩
theorem SameMem.cell{w w':World}(s:SameMem w w')(a:Addr):w'.cell? a=w.cell? a:=by simp[World.cell?,s.1]
theorem a5d(r:HRel E.G I K ρ h w){k:Nat}{x:AV}{xs:List (List AV)}{c:Value}(ha:a2h h k x=some xs)(hx:VRel I w ρ x c) :
 (Builtin.lenOf c).run E.P w = .ok xs.length w∧(∃cv:Array Value,(∀w',SameMem w w'->(Builtin.firstCells k xs.length c).run E.P w' = .ok cv w')∧VRels I w ρ xs.flatten cv.toList)∧∀r∈xs,r.length=k:=by
 unfold a2h at ha;split at ha
 ·cases ha;simp only[VRel]at hx;subst hx;exact⟨rfl,⟨#[],λ_ _=>rfl,by simp[VRels]⟩,by simp⟩
 ·rename_i aa cap;rw[cond_eq_ite]at ha;split at ha
  case isFalse=>cases ha
  rename_i aW;cases ha;simp only[f4l,f7u]at aW;simp only[VRel]at hx;obtain⟨a,cc,kk,rfl,bf,_,bM⟩:=hx;refine⟨rfl,?_,aW⟩;rcases bM with rfl|⟨hs,hI,aA⟩
  ·exact⟨#[],λw' _=>by simp[Builtin.firstCells,loadCells,loadCellsFrom],by simp[VRels]⟩
  ·rw[VRows.iff]at aA;obtain⟨cv,h1,h2⟩:=VAt.cells aA.2;have hl:cv.length=xs.length*k:=by rw[<-VRels.length h2,a14 aW]
   have ha:a=⟨a.block,a.off,none⟩:=by cases a;simp_all
   refine⟨cv.toArray,λw' mV=>?_,by simpa using VRels.noRef_any h2⟩;have:=run_loadCells_list (P:=E.P) w' a cv (λj v hj=>by rw[ha,a4e,mV.cell];exact h1 j v hj);rw[hl]at this;simpa[Builtin.firstCells]using this
 ·rename_i b off len cap;split at ha
  case h_2=>cases ha
  rename_i k' aa hb;rw[cond_eq_ite]at ha;split at ha
  case isFalse=>cases ha
  rename_i hc;cases ha;simp only[f1d,f7u,f7k]at hc;obtain⟨rfl,cG⟩:=hc;obtain⟨m,hm,_,_,ho⟩:=r.live b _ hb;obtain⟨hk,hk0,_,aA⟩:=ho;have ak:((aa.drop off).take len).length=len:=by simp;omega
  simp only[VRel]at hx;obtain⟨a,cc,rfl,bf,_,bM⟩:=hx;have aV:=VRows.take len (VRows.drop off (by omega) aA);rw[VRows.iff]at aV;refine⟨by simp[Builtin.lenOf,ak],?_,aV.1⟩;rw[ak];rcases bM with rfl|⟨m',bl,rfl,bc⟩
  ·have:len=0:=by omega
   subst this;exact⟨#[],λw' _=>by simp[Builtin.firstCells,loadCells,loadCellsFrom],by simp[VRels]⟩
  ·obtain rfl:m=m':=z9o (hm.symm.trans bl);obtain⟨cv,h1,h2⟩:=VAt.cells aV.2;have hl:cv.length=len*k':=by rw[<-VRels.length h2,a14 aV.1,ak]
   refine⟨cv.toArray,λw' mV=>?_,by simpa using h2⟩;have:=run_loadCells_list (P:=E.P) w' ⟨m.blk,m.off+off*m.k,none⟩ cv (λj v hj=>by rw[a4e,hk,mV.cell];exact h1 j v hj);rw[hl]at this;simpa[Builtin.firstCells]using this
 ·rename_i s;rw[cond_eq_ite]at ha;split at ha
  case isFalse=>cases ha
  rename_i hk;cases ha;have hk:k=1:=by simpa using hk
  subst hk;simp only[VRel]at hx;obtain⟨t,rfl,ht⟩:=hx;have cj:t.size=s.length:=by rw[<-ht,f4p];rfl
  refine⟨by simp[Builtin.lenOf,cj],⟨_,λw' _=>by simp only[Builtin.firstCells,Sem.run_pure];rfl,?_⟩,by simp⟩;rw[f8q,a6z];simp only[f6s,c10,ht,f6p];exact b04 s
 ·cases ha
def a34:TypeDesc->Bool
 |.int _=>true
 |_=>false
def a2j(E:Env)(ac:TypeId)(a9m:Nat):Bool:=decide (a9m<=17592186044416)&&decide (E.bytes ac*(2*a9m+192)<=281474976710656)
theorem c24(a9m:Nat):∀(r c:Nat),c<=2*a9m+192->Builtin.growBy a9m r c<=2*a9m+192
 |0,c,h=>h
 |r+1,c,h=>by
  simp only[Builtin.growBy];split
  ·exact h
  ·rename_i hc;exact c24 a9m r _ (by omega)
theorem a8r{a9m old:Nat}(h:old<a9m):Builtin.nextslicecap a9m old<=2*a9m+192:=by
 unfold Builtin.nextslicecap;split
 ·omega
 ·split
  ·omega
  ·exact c24 a9m 4 old (by omega)
theorem a5h(z:Array Value)(m:Nat):(Builtin.zeroCells z m).toList=(List.replicate m z.toList).flatten:=by rw[<-a3w];simp only[Builtin.zeroCells,f8q,Array.toList_range,f4p];apply f4y;intro a _;rw[Array.getElem!_toList]
theorem b41(ok:EnvOk E){st xt ac:TypeId}{dx:TypeDesc}(hu:E.und st=some (.slice ac))(fB:E.und xt=some dx)(bB:a34 dx=false)
 {z:List AV}(hz:E.zero ac=some z){base:Option Addr}{aN bI m:Nat}{cx:Value}{old new:Array Value}(ty:TypeId)
 (ak:(Builtin.lenOf cx).run E.P w = .ok m w)(kg:bI<aN+m)(bc:a2j E ac (aN+m)=true)
 (aG:∀w',SameMem w w'->(Builtin.firstCells (E.sz ac) aN (.slice base aN bI)).run E.P w' = .ok old w')
 (aX:∀w',SameMem w w'->(Builtin.firstCells (E.sz ac) m cx).run E.P w' = .ok new w') :
 ∃(bi:Nat) (zs:List Value) (w0:World),SameMem w w0∧aN+m<=bi∧zs.length=E.sz ac∧
  (Builtin.append_ #[st,xt] ty #[.slice base aN bI,cx]).run E.P w =
   .ok (.slice (some ⟨w.heap.size,0,none⟩) (aN+m) bi)
    { w0 with heap:=w0.heap.push (.cells (old++new++(List.replicate (bi-(aN+m)) zs).flatten.toArray) ac) }:=by
 obtain⟨⟨de,bu⟩,i',z',jw,d8,lh,lg⟩:=ok.zero ac z hz;simp only[a2j,f1d,f2y]at bc;have gF:∀w',(zeroValue ac).run E.P w' = .ok z' w':=by intro w';simp[zeroValue,typeInfo,jw,d8]
 have eI:z'.cells.toList.length=E.sz ac:=by rw[<-lh,VRels.length (lg (λ_=>False) w)]
 obtain⟨i,hi,_,jD⟩:=b39 ok w bu;have gU:∀w',(typeInfo ac).run E.P w' = .ok i w':=by intro w';have:=hi;simp[typeInfo,jw]at this⊢;exact this
 have un:∀w',(underlying xt).run E.P w' = .ok dx w':=λw'=>a0c ok w' fB;refine⟨aN+m+(w.tape w.drawn (.appendCap (aN+m) bI ac))%(2^63-(aN+m)),z'.cells.toList,{ w with drawn:=w.drawn+1 },⟨rfl,rfl,rfl,rfl⟩,by omega,eI,?_⟩;have bf:¬(aN+m<=bI):=by omega
 have aY:=a8r kg;have sQ:¬(Builtin.nextslicecap (aN+m) bI*i.bytes>2^48):=by rw[jD];have:Builtin.nextslicecap (aN+m) bI*E.bytes ac<=(2*(aN+m)+192)*E.bytes ac:=f7j _ aY;rw[Nat.mul_comm (2*(aN+m)+192)]at this;omega
 have lD:¬(((aN+m:Nat):Int)>IntKind.i64.max):=by simp only[IntKind.max,IntKind.signed,IntKind.bits];simp;omega
 have tA:¬((((aN+m:Nat):Int)>IntKind.i64.max)∧(False∨i.bytes=0)):=λhh=>lD hh.1;have pm:=aG { w with drawn:=w.drawn+1 } ⟨rfl,rfl,rfl,rfl⟩;have px:=aX { w with drawn:=w.drawn+1 } ⟨rfl,rfl,rfl,rfl⟩;have pt:∀k:IntKind,dx≠ .int k:=by rintro k rfl;simp[a34]at bB
 unfold Builtin.append_;simp only[f7f,f4z,f4r,Sem.run_bind,a0c ok w hu,Result.andThen_ok,a3a ok w bu];simp only[un w,Result.andThen_ok,Sem.run_pure];simp only[f6t,f9d,Sem.run_bind,ak,Result.andThen_ok,bf,gU,false_or,lD,false_and,sQ,Bool.not_false,f7i,run_choose,run_askRoom,
  Question.forced,Question.cut,pm,px,gF,a4h,Sem.run_pure]
 congr 4
 apply f9b;simp only[Array.toList_append,a5h]
theorem a3m(ok:EnvOk E){st xt ac:TypeId}{dx de:TypeDesc}(hu:E.und st=some (.slice ac))(bu:E.und ac=some de)(fB:E.und xt=some dx)(bB:a34 dx=false)
 {base:Option Addr}{aN bI m:Nat}{cx:Value}{new:Array Value}(ty:TypeId){w':World}
 (ak:(Builtin.lenOf cx).run E.P w = .ok m w)(bf:aN+m<=bI)
 (aX:(Builtin.firstCells (E.sz ac) m cx).run E.P w = .ok new w)
 (az:∀a,base=some a->(storeCells (a.add (aN*E.sz ac)) new.toList).run E.P w = .ok () w')(eb:base=none->w'=w) :
 (Builtin.append_ #[st,xt] ty #[.slice base aN bI,cx]).run E.P w = .ok (.slice base (aN+m) bI) w':=by
 have pt:∀k:IntKind,dx≠ .int k:=by rintro k rfl;simp[a34]at bB
 unfold Builtin.append_;simp only[f7f,f4z,f4r,Sem.run_bind,a0c ok w hu,Result.andThen_ok,a3a ok w bu,a0c ok w fB,Sem.run_pure];simp only[f6t,f9d,Sem.run_bind,ak,Result.andThen_ok,bf,Bool.not_false,f7i,aX];cases base with
 |none=>simp[eb rfl]
 |some a=>simp[az a rfl]
def a52(E:Env)(h:FHeap)(n:Nat)(st xt:TypeId)(s x:AV):Option (AV×Eff):=
 match E.und st,E.und xt with
 |some (.slice ac),some dx=>
  bif a34 dx || !(E.zero ac).isSome || !(Nat.blt 0 (E.sz ac))then none else
  match a2h h (E.sz ac) x with
  |none=>none
  |some xs=>match s with
   |.nilslice=>match xs with
    | []=>some (.nilslice,.none)
    |y::ys=>bif a2j E ac (y::ys).length then some (.slice n 0 (y::ys).length none,.new (.row (E.sz ac) (y::ys)))else none
   |.islice aa cap=>bif aa.all (λr=>r.length==E.sz ac)then match xs with
    | []=>some (.islice aa cap,.none)
    |y::ys=>match cap with
     |some c=>bif Nat.blt c (aa.length+(y::ys).length)&&a2j E ac (aa.length+(y::ys).length)then
      some (.slice n 0 (aa.length+(y::ys).length) none,.new (.row (E.sz ac) (aa++(y::ys))))else none
     |none=>none
    else none
   |.slice b off len cap=>match h b with
    |some (.row kk aa)=>bif kk==E.sz ac&&Nat.ble (off+len) aa.length then
     match cap with
     |none=>bif a2j E ac (len+xs.length)&&xs.all (λr=>r.all AV.storable)then
      some (.slice n 0 (len+xs.length) none,.kill b (.row (E.sz ac) (bif Nat.beq (off+len) aa.length then aa.drop off++xs else(aa.drop off).take len++xs)))else none
     |some c=>bif Nat.ble (len+xs.length) c then
      bif Nat.ble (off+len+xs.length) aa.length&&xs.all (λr=>r.all AV.storable)then
       some (.slice b off (len+xs.length) (some c),.set b (.row (E.sz ac) (aa.take (off+len)++xs++aa.drop (off+len+xs.length))))else none
      else bif a2j E ac (len+xs.length)then
       some (.slice n 0 (len+xs.length) none,.new (.row (E.sz ac) ((aa.drop off).take len++xs)))else none
     else none
    |_=>none
   |_=>none
 |_,_=>none
theorem VRels.flat_append{as bs:List (List AV)}{xs ys:List Value}(h:VRels I w ρ as.flatten xs)(k:VRels I w ρ bs.flatten ys):VRels I w ρ (as++bs).flatten (xs++ys):=by rw[List.flatten_append];exact VRels.append h k
theorem b3i(ok:EnvOk E)(r:HRel E.G I K ρ h w)(hn:h n=none)(hρ:ρ n=none){st xt ac:TypeId}{dx:TypeDesc}(hu:E.und st=some (.slice ac))(fB:E.und xt=some dx)
 (bB:a34 dx=false){z:List AV}(hz:E.zero ac=some z)(cj:0<E.sz ac){base:Option Addr}{aN bI m:Nat}{cx:Value}{old new:Array Value}(ty:TypeId){ss xs:List (List AV)}
 (ak:(Builtin.lenOf cx).run E.P w = .ok m w)(kg:bI<aN+m)(bc:a2j E ac (aN+m)=true)
 (aG:∀w',SameMem w w'->(Builtin.firstCells (E.sz ac) aN (.slice base aN bI)).run E.P w' = .ok old w')
 (aX:∀w',SameMem w w'->(Builtin.firstCells (E.sz ac) m cx).run E.P w' = .ok new w')
 (qy:VRels I w ρ ss.flatten old.toList)(cg:VRels I w ρ xs.flatten new.toList)(m7:∀r∈ss,r.length=E.sz ac)(fe:∀r∈xs,r.length=E.sz ac)
 (cY:ss.length=aN)(lm:xs.length=m){e:Eff}(he:e = .new (.row (E.sz ac) (ss++xs))∨∃b,e = .kill b (.row (E.sz ac) (ss++xs))) :
 Val E I K ρ h n w (Builtin.append_ #[st,xt] ty #[.slice base aN bI,cx]) (.slice n 0 (aN+m) none) e:=by
 obtain⟨bi,zs,w0,cA,aY,gu,ae⟩:=b41 ok hu fB bB hz ty ak kg bc aG aX;generalize bN:old++new++(List.replicate (bi-(aN+m)) zs).flatten.toArray=cells at ae;have gX:∀m,(List.replicate m zs).flatten.length=m*E.sz ac:=by
  intro m;induction m with
  |zero=>simp
  |succ m ih=>rw[f8i,f7a,f2n,ih,gu,g0h,Nat.add_comm]
 have cE:old.size=aN*E.sz ac:=by have:=VRels.length qy;rw[a14 m7,cY,f4p]at this;exact this.symm
 have dH:new.size=m*E.sz ac:=by have:=VRels.length cg;rw[a14 fe,lm,f4p]at this;exact this.symm
 have aT:cells.size=bi*E.sz ac:=by
  subst bN;simp only[Array.size_append,cE,dH,List.size_toArray,gX];rw[<-f8g,<-f8g]
  congr 1;omega
 have tc:∀c,I c->({ w0 with heap:=w0.heap.push (.cells cells ac) }:World).heap[c]?=w.heap[c]?:=by intro c hc;have:=r.imm c hc;show(w0.heap.push _)[c]?=_;rw[cA.1,f9c,f2m (by omega)]
 have gP:({ w0 with heap:=w0.heap.push (.cells cells ac) }:World).heap[w.heap.size]?=some (.cells cells ac (0,0)):=by show(w0.heap.push _)[_]?=_;rw[cA.1];simp
 have aF:=PMap.set_old (m:=⟨w.heap.size,0,E.sz ac,cells.size⟩) hρ;have ho:ORel E.G I { w0 with heap:=w0.heap.push (.cells cells ac) } (ρ.set n ⟨w.heap.size,0,E.sz ac,cells.size⟩) ⟨w.heap.size,0,E.sz ac,cells.size⟩ (.row (E.sz ac) (ss++xs)):=by
  refine⟨rfl,cj,⟨cells,ac,gP,rfl,?_⟩,?_⟩
  ·show 0+(ss++xs).length*E.sz ac<=cells.size;rw[f2n,cY,lm,aT,f2u];exact f7j _ aY
  ·rw[VRows.iff];refine⟨by intro x hx;rcases f4s.1 hx with h|h;exact m7 x h;exact fe x h,?_⟩;refine VAt.of_cells (cs:=(old++new).toList) (CellsAt.of_heap gP (λj v hj=>?_)) ?_
   ·subst bN;have mu:=(f1i.1 hj).1;simp only[f4p]at mu;rw[f2u,Array.getElem?_append_left mu,<-f8h];exact hj
   ·rw[Array.toList_append];exact VRels.mono (λ_ h=>h) tc _ aF (VRels.flat_append qy cg)
 refine⟨_,_,ρ.set n ⟨w.heap.size,0,E.sz ac,cells.size⟩,ae,?_,?_,Moves.set _ _ _ (by rcases he with rfl|⟨b,rfl⟩<;>rfl)⟩
 ·rcases he with rfl|⟨b,rfl⟩
  ·exact a2q (ob:=.cells cells ac) r hn hρ (by show w0.heap.push _=_;rw[cA.1]) cA.2.1 cA.2.2.1 cA.2.2.2 rfl ho
  ·exact b2z (ob:=.cells cells ac) r hn hρ b (by show w0.heap.push _=_;rw[cA.1]) cA.2.1 cA.2.2.1 cA.2.2.2 rfl ho
 ·simp only[VRel];refine⟨_,bi,rfl,aY,(λq hq=>by cases hq),.inr ⟨_,by simp[PMap.set];rfl,by simp,?_⟩⟩;show 0+(0+bi)*E.sz ac<=cells.size;rw[aT,f2u,f2u];exact f2q _
theorem b7o(ok:EnvOk E)(r:HRel E.G I K ρ h w){st xt ac:TypeId}{dx de:TypeDesc}(hu:E.und st=some (.slice ac))(bu:E.und ac=some de)(fB:E.und xt=some dx)
 (bB:a34 dx=false){m:Pl}{b off aN bI nn:Nat}{aa xs:List (List AV)}{cx:Value}{new:Array Value}(ty:TypeId)
 (hb:h b=some (.row (E.sz ac) aa))(hm:ρ b=some m)(bT:off+aN<=aa.length)(bc:m.off+(off+bI)*m.k<=m.room)
 (ak:(Builtin.lenOf cx).run E.P w = .ok nn w)(bf:aN+nn<=bI)(aX:(Builtin.firstCells (E.sz ac) nn cx).run E.P w = .ok new w)
 (cg:VRels I w ρ xs.flatten new.toList)(fe:∀r∈xs,r.length=E.sz ac)(lm:xs.length=nn)(az:xs.all (λr=>r.all AV.storable)=true) :
 ∃w',(Builtin.append_ #[st,xt] ty #[.slice (some ⟨m.blk,m.off+off*m.k,none⟩) aN bI,cx]).run E.P w = .ok (.slice (some ⟨m.blk,m.off+off*m.k,none⟩) (aN+nn) bI) w'∧
  w'.heap.size=w.heap.size∧(∀c,c≠m.blk->w'.heap[c]?=w.heap[c]?)∧w'.tape=w.tape∧w'.os=w.os∧w'.output=w.output∧
  (∃cI e,w'.heap[m.blk]?=some (.cells cI e (0,0))∧cI.size=m.room)∧VRows I w' (E.sz ac) ρ (aa.take (off+aN)++xs) m.blk m.off∧
  (∀x,m.off+(off+aN+nn)*E.sz ac<=x->w'.cell? ⟨m.blk,x,none⟩=w.cell? ⟨m.blk,x,none⟩):=by
 obtain⟨m',bl,dY,_,ho⟩:=r.live b _ hb;obtain rfl:m=m':=z9o (hm.symm.trans bl);obtain⟨hk,hk0,⟨cI,el,fy,aT,_⟩,aA⟩:=ho;have dH:new.toList.length=nn*E.sz ac:=by have:=VRels.length cg;rw[a14 fe,lm]at this;exact this.symm
 have gX:xs.flatten.all AV.storable=true:=by rw[f4l]at az⊢;intro v hv;obtain⟨l,hl,dD⟩:=List.mem_flatten.1 hv;exact f4l.1 (az l hl) v dD
 have p9:(⟨m.blk,m.off+off*m.k,none⟩:Addr).add (aN*E.sz ac)=⟨m.blk,m.off+(off+aN)*E.sz ac,none⟩:=by rw[a4e,hk,f8g,g0m]
 have cG:m.off+(off+aN)*E.sz ac+new.toList.length<=cI.size:=by rw[aT,dH,g0m,<-f8g];rw[hk]at bc;have:(off+aN+nn)*E.sz ac<=(off+bI)*E.sz ac:=f7j _ (by omega);omega
 obtain⟨w',ae,⟨dU,a6,jm⟩,bL,cj,ht,fE,aU,bN,cZ⟩:=b3t (w:=w) (blk:=m.blk) (o:=m.off+(off+aN)*E.sz ac) new.toList fy cG (VRels.storable cg gX) E.P;have da:∀c,I c->w'.heap[c]?=w.heap[c]?:=λc hc=>bL c (λe=>dY (e▸hc));refine⟨w',?_,cj,bL,ht,fE,aU,⟨dU,el,a6,by omega⟩,?_,?_⟩
 ·exact a3m ok hu bu fB bB ty ak bf aX (λa ha=>by cases ha;rw[p9];exact ae) (λh=>by cases h)
 ·rw[VRows.append];have dE:(aa.take (off+aN)).length=off+aN:=by simp;omega
  refine⟨?_,?_⟩
  ·refine VRows.mono_cells (λ_ h=>h) da (λ_ _ h=>h) (λj hj=>cZ _ (.inl ?_)) (VRows.take (off+aN) aA);rw[dE]at hj;omega
  ·rw[VRows.iff,dE];exact⟨fe,VAt.of_cells bN (VRels.mono (λ_ h=>h) da _ (λ_ _ h=>h) cg)⟩
 ·intro x hx;refine cZ x (.inr ?_);rw[dH,g0m,<-f8g];exact hx
theorem c9i(ok:EnvOk E)(r:HRel E.G I K ρ h w)(hn:h n=none)(hρ:ρ n=none){st xt:TypeId}{s x v:AV}{e:Eff}{cs cx:Value}(ty:TypeId)
 (ha:a52 E h n st xt s x=some (v,e))(hs:VRel I w ρ s cs)(hx:VRel I w ρ x cx):Val E I K ρ h n w (Builtin.append_ #[st,xt] ty #[cs,cx]) v e:=by
 unfold a52 at ha;split at ha
 case h_2=>cases ha
 rename_i ac dx hu fB;rw[cond_eq_ite]at ha;split at ha
 case isTrue=>cases ha
 rename_i hc;simp only[f8w,f6z,not_or,Bool.not_eq_true,Bool.not_eq_false,f4o]at hc;obtain⟨⟨bB,qv⟩,cj⟩:=hc;obtain⟨z,hz⟩:=f1j.1 qv;obtain⟨⟨de,bu⟩,_⟩:=ok.zero ac z hz;split at ha
 case h_1=>cases ha
 rename_i xs cg;obtain⟨ak,⟨new,aX,lB⟩,fe⟩:=a5d r cg hx;have fS:=aX w ⟨rfl,rfl,rfl,rfl⟩;split at ha
 · -- nil
  simp only[VRel]at hs;subst hs;split at ha
  ·cases ha;refine Val.here (c:=.slice none 0 0) r ?_ (by simp[VRel]);exact a3m ok hu bu fB bB ty ak (by simp) fS (λa h=>by cases h) (λ_=>rfl)
  ·rename_i y ys;rw[cond_eq_ite]at ha;split at ha
   case isFalse=>cases ha
   rename_i bc;cases ha;have:=b3i (ss:=[]) (old:=#[]) (base:=none) (aN:=0) (bI:=0) (e:=.new (.row (E.sz ac) ([]++(y::ys)))) ok r hn hρ hu fB bB hz cj ty ak (by simp) (by simpa using bc)
    (λw' _=>rfl) aX (by simp[VRels]) lB (by simp) fe rfl rfl (.inl rfl)
   simpa using this
 · -- immutable memory
  rename_i aa cap;rw[cond_eq_ite]at ha;split at ha
  case isFalse=>cases ha
  rename_i aW;have o9:=hs;simp only[VRel]at o9;obtain⟨a,cc,kk,rfl,bf,aY,bM⟩:=o9;split at ha
  ·cases ha;refine Val.here r ?_ hs;have:=a3m ok hu bu fB bB (base:=some a) (aN:=aa.length) (bI:=cc) ty (w':=w) ak (by simpa using bf) fS (λa' h=>by
    have:new.toList=[]:=by have:=VRels.length lB;simpa using this.symm
    rw[this];rfl) (λh=>by cases h)
   simpa using this
  ·rename_i y ys;split at ha
   case h_2=>cases ha
   rename_i c;rw[cond_eq_ite]at ha;split at ha
   case isFalse=>cases ha
   rename_i bc;cases ha;simp only[f1d,f4o]at bc;obtain⟨_,⟨old,aG,ly⟩,m7⟩:=a5d (k:=E.sz ac) (xs:=aa) r (by simp only[a2h,aW,f2v]) hs;have cW:=aY c rfl;exact b3i ok r hn hρ hu fB bB hz cj ty ak (by omega) bc.2 aG aX ly lB m7 fe rfl rfl (.inl rfl)
 · -- a mutable block
  rename_i b off len cap;split at ha
  case h_2=>cases ha
  rename_i kk aa hb;rw[cond_eq_ite]at ha;split at ha
  case isFalse=>cases ha
  rename_i cW;simp only[f1d,f7u,f7k]at cW;obtain⟨rfl,cG⟩:=cW;have o9:=hs;simp only[VRel]at o9;obtain⟨a,c,rfl,bf,aY,bM⟩:=o9;obtain⟨tk,⟨old,aG,ly⟩,m7⟩:=a5d (k:=E.sz ac) (xs:=(aa.drop off).take len) r (by simp only[a2h,hb,beq_self_eq_true,f8f,Nat.ble_eq_true_of_le cG,f2v]) hs;have cY:((aa.drop off).take len).length=len:=by simp;omega
  rw[cY]at aG;split at ha
  · -- capacity unknown
   rw[cond_eq_ite]at ha;split at ha
   case isFalse=>cases ha
   rename_i aW;cases ha;simp only[f1d]at aW;obtain⟨bc,az⟩:=aW;have hR:(bif Nat.beq (off+len) aa.length then aa.drop off++xs else(aa.drop off).take len++xs)=(aa.drop off).take len++xs:=by
    cases hq:Nat.beq (off+len) aa.length with
    |false=>rfl
    |true=>have cS:=f7o hq;rw[f2v,f1k (by simp;omega)]
   rw[hR];by_cases fT:len+xs.length<=c
   ·rcases bM with rfl|⟨m,hm,rfl,dl⟩
    · -- no capacity at all: nothing is appended to nothing
     have h0:len=0:=by omega
     have rc:xs=[]:=List.length_eq_zero_iff.1 (by omega);subst h0 rc;obtain⟨m,hm,dY,gx,hk,hk0,⟨cI,el,fy,aT,gY⟩,aA⟩:=r.live b _ hb;have hd:(aa.drop off).take 0=[]:=f2j;have aF:=PMap.set_old (m:=⟨m.blk,m.off,m.k,m.room⟩) hρ;refine⟨.slice (some a) 0 0,w,ρ.set n ⟨m.blk,m.off,m.k,m.room⟩,?_,?_,?_,Moves.set _ _ _ rfl⟩
     ·have:=a3m ok hu bu fB bB (base:=some a) (aN:=0) (bI:=0) ty (w':=w) ak (by simp) fS (λa' h=>by
       have:new.toList=[]:=by have:=VRels.length lB;simpa using this.symm
       rw[this];rfl) (λh=>by cases h)
      simpa using this
     ·refine a74 (mb:=m) r hn hρ hb hm rfl rfl (λ_ _=>rfl) rfl rfl rfl ?_;refine⟨hk,hk0,⟨cI,el,fy,aT,?_⟩,?_⟩
      ·simp[hd];omega
      ·simp[hd,VRows]
     ·simp only[VRel];exact⟨a,0,rfl,by simp,(λq hq=>by cases hq),.inl rfl⟩
    ·obtain⟨w',ae,jm,bL,ht,fE,aU,⟨cI,el,a6,bz⟩,iD,_⟩:=b7o (nn:=xs.length) ok r hu bu fB bB ty hb hm cG dl ak fT fS lB fe rfl az;obtain⟨m',bl,dY,gx,hk,hk0,_,_⟩:=r.live b _ hb;obtain rfl:m=m':=z9o (hm.symm.trans bl);have aF:=PMap.set_old (m:=⟨m.blk,m.off+off*m.k,m.k,m.room⟩) hρ;have da:∀c,I c->w'.heap[c]?=w.heap[c]?:=λc hc=>bL c (λe=>dY (e▸hc));refine⟨_,w',ρ.set n ⟨m.blk,m.off+off*m.k,m.k,m.room⟩,ae,?_,?_,Moves.set _ _ _ rfl⟩
     ·refine a74 (mb:=m) r hn hρ hb hm rfl jm bL ht fE aU ?_;have ja:((aa.drop off).take len++xs).length=len+xs.length:=by rw[f2n,cY]
      refine⟨hk,hk0,⟨cI,el,a6,bz,?_⟩,?_⟩
      ·rw[ja,<-hk,g0m,<-f8g];have:(off+(len+xs.length))*m.k<=(off+c)*m.k:=f7j _ (by omega);exact g0n (Nat.add_le_add_left this m.off) dl
      ·have h1:=VRows.drop (rs:=aa.take (off+len)++xs) off (by simp;omega) iD;rw[List.drop_append_of_le_length (by rw[f2z];omega),List.drop_take,f7g]at h1;rw[show off*E.sz ac=off*m.k by rw[hk]]at h1;exact VRows.mono (λ_ h=>h) (λ_ _=>rfl) _ aF rfl h1
     ·simp only[VRel];refine⟨_,c,rfl,fT,(λq hq=>by cases hq),.inr ⟨_,by simp[PMap.set];rfl,by simp,?_⟩⟩;show m.off+off*m.k+(0+c)*m.k<=m.room;rw[f2u,g0m,<-f8g];exact dl
   ·have:=b3i (e:=.kill b (.row (E.sz ac) ((aa.drop off).take len++xs))) ok r hn hρ hu fB bB hz cj ty ak (by omega) bc aG aX ly lB m7 fe cY rfl (.inr ⟨b,rfl⟩);exact this
  · -- capacity known
   rename_i c';have sn:c=c':=aY c' rfl;subst sn;rw[cond_eq_ite]at ha;split at ha
   ·rename_i fT;simp only[f7k]at fT;rw[cond_eq_ite]at ha;split at ha
    case isFalse=>cases ha
    rename_i aW;cases ha;simp only[f1d,f7k]at aW;obtain⟨cV,az⟩:=aW;rcases bM with rfl|⟨m,hm,rfl,dl⟩
    ·have h0:len=0:=by omega
     have rc:xs=[]:=List.length_eq_zero_iff.1 (by omega);subst h0 rc;have aA:aa.take (off+0)++[]++aa.drop (off+0+([]:List (List AV)).length)=aa:=by simp
     rw[aA];refine⟨.slice (some a) 0 0,w,ρ,?_,?_,?_,Moves.same _ _ _⟩
     ·have:=a3m ok hu bu fB bB (base:=some a) (aN:=0) (bI:=0) ty (w':=w) ak (by simp) fS (λa' h=>by
       have:new.toList=[]:=by have:=VRels.length lB;simpa using this.symm
       rw[this];rfl) (λh=>by cases h)
      simpa using this
     ·obtain⟨m,hm,_,_,ho⟩:=r.live b _ hb;exact a2d r hb hm rfl (λ_ _=>rfl) rfl rfl rfl ho
     ·simp only[VRel];exact⟨a,0,rfl,by simp,(λq hq=>by cases hq;rfl),.inl rfl⟩
    ·obtain⟨w',ae,jm,bL,ht,fE,aU,⟨cI,el,a6,bz⟩,iD,cZ⟩:=b7o (nn:=xs.length) ok r hu bu fB bB ty hb hm cG dl ak fT fS lB fe rfl az;obtain⟨m',bl,dY,gx,hk,hk0,⟨_,_,_,_,gY⟩,m9⟩:=r.live b _ hb;obtain rfl:m=m':=z9o (hm.symm.trans bl);have da:∀c,I c->w'.heap[c]?=w.heap[c]?:=λc hc=>bL c (λe=>dY (e▸hc));have ja:(aa.take (off+len)++xs).length=off+len+xs.length:=by simp;omega
     refine⟨_,w',ρ,ae,?_,?_,Moves.same _ _ _⟩
     ·refine a2d r hb hm jm bL ht fE aU ⟨hk,hk0,⟨cI,el,a6,bz,?_⟩,?_⟩
      ·have:(aa.take (off+len)++xs++aa.drop (off+len+xs.length)).length=aa.length:=by
        rw[f2n,ja];simp;omega
       rw[this];exact gY
      ·rw[VRows.append];refine⟨iD,?_⟩;rw[ja];refine VRows.mono_cells (λ_ h=>h) da (λ_ _ h=>h) (λj hj=>cZ _ (by omega)) (VRows.drop (off+len+xs.length) cV m9)
     ·simp only[VRel];exact⟨_,c,rfl,fT,(λq hq=>by cases hq;rfl),.inr ⟨m,hm,rfl,dl⟩⟩
   ·rename_i tw;rw[cond_eq_ite]at ha;split at ha
    case isFalse=>cases ha
    rename_i bc;cases ha;have tw:¬(len+xs.length<=c):=by simpa using tw
    exact b3i ok r hn hρ hu fB bB hz cj ty ak (by omega) bc aG aX ly lB m7 fe cY rfl (.inl rfl)
 ·cases ha
end
end Go.Ax
/- AxBlt: len, cap, min, max, copy. -/
namespace Go.Ax
section
variable {E:Env}{I K:Nat->Prop}{ρ:PMap}{h:FHeap}{n:Nat}{w:World}
def c07(E:Env)(h:FHeap)(t:TypeId)(x:AV):Option AV:=
 match E.und t,x with
 |some .string,.str s=>some (.int .i64 s.length)
 |some (.array n _),x=>bif x.isJunk then none else some (.int .i64 n)
 |some (.slice _),.nilslice=>some (.int .i64 0)
 |some (.slice _),.slice _ _ len _=>some (.int .i64 len)
 |some (.slice _),.islice aa _=>some (.int .i64 aa.length)
 |some (.map _ _),.nilmap=>some (.int .i64 0)
 |some (.map _ _),.imap ks _ _ _=>some (.int .i64 ks.length)
 |some (.map _ _),.iset ks=>some (.int .i64 ks.length)
 |some (.map _ _),.map b=>match h b with
  |some (.map ks _ _ _)=>some (.int .i64 ks.length)
  |some (.uset ks)=>some (.int .i64 ks.length)
  |_=>none
 |_,_=>none
theorem e39(ok:EnvOk E)(r:HRel E.G I K ρ h w){t:TypeId}{x v:AV}{c:Value}(ty:TypeId)(hv:c07 E h t x=some v)(hx:VRel I w ρ x c) :
 Val E I K ρ h n w (Builtin.len_ #[t] ty #[c]) v .none:=by
 unfold c07 at hv;split at hv
 ·rename_i hu;cases hv;simp only[VRel]at hx;obtain⟨tb,rfl,ht⟩:=hx;have:tb.size=tb.data.toList.length:=by rw[f4p];rfl
  exact Val.here (c:=goInt tb.size) r (by simp[Builtin.len_,a0c ok w hu]) (by rw[<-ht,this];simp[goInt,VRel])
 ·rename_i y m e hu;rw[cond_eq_ite]at hv;split at hv
  ·cases hv
  ·cases hv;refine Val.here (c:=goInt m) r ?_ (by simp[goInt,VRel]);cases c<;>simp[Builtin.len_,a0c ok w hu]
 ·rename_i hu;cases hv;simp only[VRel]at hx;subst hx;exact Val.here (c:=goInt 0) r (by simp[Builtin.len_,a0c ok w hu]) (by simp[goInt,VRel])
 ·rename_i hu;cases hv;simp only[VRel]at hx;obtain⟨a,cc,rfl,_⟩:=hx;exact Val.here (c:=goInt _) r (by simp[Builtin.len_,a0c ok w hu];rfl) (by simp[goInt,VRel])
 ·rename_i hu;cases hv;simp only[VRel]at hx;obtain⟨a,cc,k,rfl,_⟩:=hx;exact Val.here (c:=goInt _) r (by simp[Builtin.len_,a0c ok w hu];rfl) (by simp[goInt,VRel])
 ·rename_i hu;cases hv;simp only[VRel]at hx;subst hx;exact Val.here (c:=goInt 0) r (by simp[Builtin.len_,a0c ok w hu]) (by simp[goInt,VRel])
 ·rename_i hu;cases hv;simp only[VRel]at hx;obtain⟨cc,es,rfl,_,he,d6,_,_⟩:=hx;have hl:=VRels.length d6;simp only[c10,f4p]at hl;refine Val.here (c:=goInt es.size) r ?_ (by rw[hl];simp[goInt,VRel]);simp[Builtin.len_,a0c ok w hu,getObj,Sem.run,he]
 ·rename_i hu;cases hv;simp only[VRel]at hx;obtain⟨cc,es,cl,rfl,_,he,hs⟩:=hx;have hl:=hs.1.length_eq;simp only[c10,f4p]at hl;refine Val.here (c:=goInt es.size) r ?_ (by rw[hl];simp[goInt,VRel]);simp[Builtin.len_,a0c ok w hu,getObj,Sem.run,he]
 ·rename_i b hu;split at hv
  case h_3=>cases hv
  case h_2=>rename_i ks hb;cases hv;simp only[VRel]at hx;obtain⟨m,hm,rfl⟩:=hx;obtain⟨m',bl,_,_,ho⟩:=r.live b _ hb;obtain rfl:m=m':=z9o (hm.symm.trans bl);obtain⟨es,cl,he,hs⟩:=ho;have hl:=hs.1.length_eq;simp only[c10,f4p]at hl;refine Val.here (c:=goInt es.size) r ?_ (by rw[hl];simp[goInt,VRel]);simp[Builtin.len_,a0c ok w hu,getObj,Sem.run,he]
  rename_i ks vs bs cl hb;cases hv;simp only[VRel]at hx;obtain⟨m,hm,rfl⟩:=hx;obtain⟨m',bl,_,_,ho⟩:=r.live b _ hb;obtain rfl:m=m':=z9o (hm.symm.trans bl);obtain⟨es,he,d6,_,_⟩:=ho;have hl:=VRels.length d6;simp only[c10,f4p]at hl;refine Val.here (c:=goInt es.size) r ?_ (by rw[hl];simp[goInt,VRel]);simp[Builtin.len_,a0c ok w hu,getObj,Sem.run,he]
 ·cases hv
def e3g(E:Env)(t:TypeId)(x:AV):Option AV:=
 match E.und t,x with
 |some (.slice _),.nilslice=>some (.int .i64 0)
 |some (.slice _),.slice _ _ _ (some c)=>some (.int .i64 c)
 |some (.slice _),.islice _ (some c)=>some (.int .i64 c)
 |_,_=>none
theorem e3f(ok:EnvOk E)(r:HRel E.G I K ρ h w){t:TypeId}{x v:AV}{c:Value}(ty:TypeId)(hv:e3g E t x=some v)(hx:VRel I w ρ x c) :
 Val E I K ρ h n w (Builtin.cap_ #[t] ty #[c]) v .none:=by
 unfold e3g at hv;split at hv
 ·rename_i hu;cases hv;simp only[VRel]at hx;subst hx;exact Val.here (c:=goInt 0) r (by simp[Builtin.cap_,a0c ok w hu]) (by simp[goInt,VRel])
 ·rename_i hu;cases hv;simp only[VRel]at hx;obtain⟨a,cc,rfl,_,hc,_⟩:=hx;have:=hc _ rfl;exact Val.here (c:=goInt cc) r (by simp[Builtin.cap_,a0c ok w hu]) (by rw[this];simp[goInt,VRel])
 ·rename_i hu;cases hv;simp only[VRel]at hx;obtain⟨a,cc,k,rfl,_,hc,_⟩:=hx;have:=hc _ rfl;exact Val.here (c:=goInt cc) r (by simp[Builtin.cap_,a0c ok w hu]) (by rw[this];simp[goInt,VRel])
 ·cases hv
def d9t:AV->List AV->Option AV
 |x,[]=>match x with|.int k a=>some (.int k a)|_=>none
 |.int k a,.int _ b::r=>d9t (.int k (if b<a then b else a)) r
 |_,_::_=>none
def d50:AV->List AV->Option AV
 |x,[]=>match x with|.int k a=>some (.int k a)|_=>none
 |.int k a,.int _ b::r=>d50 (.int k (if b>a then b else a)) r
 |_,_::_=>none
theorem d4d:∀{xs:List AV} {x v:AV} {c:Value} {cs:List Value},d9t x xs=some v->VRel I w ρ x c->VRels I w ρ xs cs->
 ∃d,(cs.foldlM Builtin.min2 c).run E.P w = .ok d w∧VRel I w ρ v d
 | [],x,v,c,cs,hv,hx,cg=>by
  simp only[VRels]at cg;subst cg;simp only[d9t]at hv;split at hv
  ·cases hv;exact⟨c,by simp,hx⟩
  ·cases hv
 |y::ys,x,v,c,cs,hv,hx,cg=>by
  simp only[VRels]at cg;obtain⟨cy,aO,rfl,hy,mT⟩:=cg;unfold d9t at hv;split at hv
  ·rename_i h;cases h
  ·rename_i k a k' b r he;cases he;simp only[VRel]at hx hy;subst hx hy;obtain⟨d,h1,h2⟩:=d4d (c:=.int k (if b<a then b else a)) hv (by simp[VRel]) mT;exact⟨d,by simp only[List.foldlM_cons,Builtin.min2,Sem.run_bind,Sem.run_pure,Result.andThen_ok,h1],h2⟩
  ·cases hv
theorem d4e:∀{xs:List AV} {x v:AV} {c:Value} {cs:List Value},d50 x xs=some v->VRel I w ρ x c->VRels I w ρ xs cs->
 ∃d,(cs.foldlM Builtin.max2 c).run E.P w = .ok d w∧VRel I w ρ v d
 | [],x,v,c,cs,hv,hx,cg=>by
  simp only[VRels]at cg;subst cg;simp only[d50]at hv;split at hv
  ·cases hv;exact⟨c,by simp,hx⟩
  ·cases hv
 |y::ys,x,v,c,cs,hv,hx,cg=>by
  simp only[VRels]at cg;obtain⟨cy,aO,rfl,hy,mT⟩:=cg;unfold d50 at hv;split at hv
  ·rename_i h;cases h
  ·rename_i k a k' b r he;cases he;simp only[VRel]at hx hy;subst hx hy;obtain⟨d,h1,h2⟩:=d4e (c:=.int k (if b>a then b else a)) hv (by simp[VRel]) mT;exact⟨d,by simp only[List.foldlM_cons,Builtin.max2,Sem.run_bind,Sem.run_pure,Result.andThen_ok,h1],h2⟩
  ·cases hv
theorem b0m(r:HRel E.G I K ρ h w){k:Nat}{x:AV}{xs:List (List AV)}{c:Value}(ha:a2h h k x=some xs)(hx:VRel I w ρ x c)(j:Nat)(hj:j<=xs.length) :
 ∃cv:Array Value,(Builtin.firstCells k j c).run E.P w = .ok cv w∧VRels I w ρ (xs.take j).flatten cv.toList:=by
 have bg:(xs.take j).length=j:=by simp;omega
 have key:∀(a:Addr) (n cap:Nat),a.spot=none->VAt I w ρ (xs.take j).flatten a.block a.off->(∀r∈xs.take j,r.length=k)->∃cv:Array Value,(Builtin.firstCells k j (.slice (some a) n cap)).run E.P w = .ok cv w∧VRels I w ρ (xs.take j).flatten cv.toList:=by
  intro a n cap hs bO hk;obtain⟨cv,h1,h2⟩:=VAt.cells bO;have hl:cv.length=j*k:=by rw[<-VRels.length h2,a14 hk,bg]
  have ha:a=⟨a.block,a.off,none⟩:=by cases a;simp_all
  refine⟨cv.toArray,?_,by simpa using h2⟩;have:=run_loadCells_list (P:=E.P) w a cv (λi v hi=>by rw[ha,a4e];exact h1 i v hi);rw[hl]at this;simpa[Builtin.firstCells]using this
 obtain⟨_,_,aW⟩:=a5d r ha hx;have mK:∀r∈xs.take j,r.length=k:=λr hr=>aW r (List.mem_of_mem_take hr);unfold a2h at ha;split at ha
 ·cases ha;simp only[VRel]at hx;subst hx;exact⟨#[],rfl,by simp[VRels]⟩
 ·rename_i aa cap;rw[cond_eq_ite]at ha;split at ha
  case isFalse=>cases ha
  cases ha;simp only[VRel]at hx;obtain⟨a,cc,kk,rfl,bf,_,bM⟩:=hx;rcases bM with rfl|⟨hs,hI,aA⟩
  ·have:j=0:=by simpa using hj
   subst this;exact⟨#[],by simp[Builtin.firstCells,loadCells,loadCellsFrom],by simp[VRels]⟩
  ·exact key a _ _ hs (VAt.noRef_any (VRows.iff.1 (VRows.take j aA)).2) mK
 ·rename_i b off len cap;split at ha
  case h_2=>cases ha
  rename_i k' aa hb;rw[cond_eq_ite]at ha;split at ha
  case isFalse=>cases ha
  rename_i hc;cases ha;simp only[f1d,f7u,f7k]at hc;obtain⟨rfl,cG⟩:=hc;obtain⟨m,hm,_,_,ho⟩:=r.live b _ hb;obtain⟨hk,hk0,_,aA⟩:=ho;simp only[VRel]at hx;obtain⟨a,cc,rfl,bf,_,bM⟩:=hx;rcases bM with rfl|⟨m',bl,rfl,bc⟩
  ·have:j=0:=by simp at hj;omega
   subst this;exact⟨#[],by simp[Builtin.firstCells,loadCells,loadCellsFrom],by simp[VRels]⟩
  ·obtain rfl:m=m':=z9o (hm.symm.trans bl);refine key _ _ _ rfl ?_ mK;rw[hk];exact(VRows.iff.1 (VRows.take j (VRows.take len (VRows.drop off (by omega) aA)))).2
 ·rename_i s;rw[cond_eq_ite]at ha;split at ha
  case isFalse=>cases ha
  cases ha;simp only[VRel]at hx;obtain⟨t,rfl,ht⟩:=hx;refine⟨_,by simp only[Builtin.firstCells,Sem.run_pure];rfl,?_⟩;rw[f8q,a6z,<-List.map_take];simp only[f6s,ht,Nat.sub_zero];exact b04 _
 ·cases ha
theorem b76(r:HRel E.G I K ρ h w){m:Pl}{b off k:Nat}{aa xs:List (List AV)}{new:List Value}(hb:h b=some (.row k aa))(hm:ρ b=some m)(cG:off+xs.length<=aa.length)
 (cg:VRels I w ρ xs.flatten new)(fe:∀r∈xs,r.length=k)(az:xs.all (λr=>r.all AV.storable)=true) :
 ∃w',(storeCells ⟨m.blk,m.off+off*m.k,none⟩ new).run E.P w = .ok () w'∧Stepped E.G I K ρ w I ρ (h.eff n (.set b (.row k (aa.take off++xs++aa.drop (off+xs.length))))) w':=by
 obtain⟨m',bl,dY,_,ho⟩:=r.live b _ hb;obtain rfl:m=m':=z9o (hm.symm.trans bl);obtain⟨hk,hk0,⟨cI,el,fy,aT,gY⟩,aA⟩:=ho;have dH:new.length=xs.length*k:=by have:=VRels.length cg;rw[a14 fe]at this;exact this.symm
 have gX:xs.flatten.all AV.storable=true:=by rw[f4l]at az⊢;intro v hv;obtain⟨l,hl,dD⟩:=List.mem_flatten.1 hv;exact f4l.1 (az l hl) v dD
 have bw:m.off+off*m.k+new.length<=cI.size:=by rw[aT,dH,hk,g0m,<-f8g];exact g0n (Nat.add_le_add_left (f7j k cG) _) gY
 obtain⟨w',ae,⟨dU,a6,jm⟩,bL,cj,ht,fE,aU,bN,cZ⟩:=b3t (w:=w) (blk:=m.blk) (o:=m.off+off*m.k) new fy bw (VRels.storable cg gX) E.P;have da:∀c,I c->w'.heap[c]?=w.heap[c]?:=λc hc=>bL c (λe=>dY (e▸hc));have dE:(aa.take off).length=off:=by simp;omega
 refine⟨w',ae,a2d r hb hm cj bL ht fE aU ⟨hk,hk0,⟨dU,el,a6,by omega,?_⟩,?_⟩⟩
 ·have:(aa.take off++xs++aa.drop (off+xs.length)).length=aa.length:=by simp;omega
  rw[this];exact gY
 ·rw[VRows.append,VRows.append];refine⟨⟨?_,?_⟩,?_⟩
  ·refine VRows.mono_cells (λ_ h=>h) da (λ_ _ h=>h) (λj hj=>cZ _ (.inl ?_)) (VRows.take off aA);rw[dE]at hj;rw[hk];omega
  ·rw[VRows.iff,dE,<-hk];exact⟨by rw[hk];exact fe,VAt.of_cells bN (VRels.mono (λ_ h=>h) da _ (λ_ _ h=>h) cg)⟩
  ·rw[f2n,dE];refine VRows.mono_cells (λ_ h=>h) da (λ_ _ h=>h) (λj hj=>cZ _ (.inr ?_)) (VRows.drop (off+xs.length) cG aA);rw[dH,hk,f8g];omega
def c9f(E:Env)(h:FHeap)(dt:TypeId)(d x:AV):Option (AV×Eff):=
 match E.und dt with
 |some (.slice ac)=>bif (E.und ac).isSome then
  match a2h h (E.sz ac) x with
  |none=>none
  |some xs=>match d with
   |.nilslice=>some (.int .i64 0,.none)
   |.slice b off len _=>bif Nat.beq len 0 then some (.int .i64 0,.none)else match h b with
    |some (.row kk aa)=>bif kk==E.sz ac&&Nat.ble (off+len) aa.length&&Nat.blt 0 len&&(xs.take len).all (λr=>r.all AV.storable)then
     some (.int .i64 ((xs.take len).length:Nat),.set b (.row kk (aa.take off++xs.take len++aa.drop (off+(xs.take len).length))))else none
    |_=>none
   |_=>none else none
 |_=>none
theorem d8g(ok:EnvOk E)(r:HRel E.G I K ρ h w){dt xt:TypeId}{d x v:AV}{e:Eff}{cd cx:Value}(ty:TypeId)
 (ha:c9f E h dt d x=some (v,e))(hd:VRel I w ρ d cd)(hx:VRel I w ρ x cx):Val E I K ρ h n w (Builtin.copy_ #[dt,xt] ty #[cd,cx]) v e:=by
 unfold c9f at ha;split at ha
 case h_2=>cases ha
 rename_i ac hu;rw[cond_eq_ite]at ha;split at ha
 case isFalse=>cases ha
 rename_i uY;obtain⟨de,bu⟩:=f1j.1 uY;split at ha
 case h_1=>cases ha
 rename_i xs cg;obtain⟨ak,_,fe⟩:=a5d r cg hx;split at ha
 ·cases ha;simp only[VRel]at hd;subst hd;obtain⟨cv,h1,h2⟩:=b0m r cg hx 0 (by omega);refine Val.here (c:=goInt 0) r ?_ (by simp[goInt,VRel]);have ng:Nat.min xs.length 0=0:=Nat.min_zero _;simp only[Builtin.copy_,f7f,f4z,f4r,Sem.run_bind,a0c ok w hu,Result.andThen_ok,ak,a3a ok w bu,ng,h1,Sem.run_pure];rfl
 ·rename_i b off len cap;rw[cond_eq_ite]at ha;split at ha
  ·rename_i h0;have h0:=f7o h0;subst h0;cases ha;simp only[VRel]at hd;obtain⟨a,c,rfl,bf,_,_⟩:=hd;obtain⟨cv,h1,h2⟩:=b0m r cg hx 0 (by omega);have aZ:cv.toList=[]:=by have:=VRels.length h2;simpa using this.symm
   refine Val.here (c:=goInt 0) r ?_ (by simp[goInt,VRel]);have ng:Nat.min xs.length 0=0:=Nat.min_zero _;simp only[Builtin.copy_,f7f,f4z,f4r,Sem.run_bind,a0c ok w hu,Result.andThen_ok,ak,a3a ok w bu,ng,h1,aZ];cases a<;>rfl
  split at ha
  case h_2=>cases ha
  rename_i kk aa hb;rw[cond_eq_ite]at ha;split at ha
  case isFalse=>cases ha
  rename_i cW;cases ha;simp only[f1d,f7u,f7k,f4o]at cW;obtain⟨⟨⟨rfl,cG⟩,fG⟩,az⟩:=cW;simp only[VRel]at hd;obtain⟨a,c,rfl,bf,_,bM⟩:=hd;rcases bM with rfl|⟨m,hm,rfl,bc⟩
  ·omega
  have d5:(xs.take len).length=Nat.min xs.length len:=by rw[f2z,Nat.min_comm]
  have rF:Nat.min xs.length len<=xs.length:=Nat.min_le_left _ _;have tx:Nat.min xs.length len<=len:=Nat.min_le_right _ _;obtain⟨cv,h1,h2⟩:=b0m r cg hx _ rF;have dF:xs.take (Nat.min xs.length len)=xs.take len:=by
   rcases Nat.le_total xs.length len with h|h
   ·rw[show Nat.min xs.length len=xs.length from Nat.min_eq_left h,f6p,f1k h]
   ·rw[show Nat.min xs.length len=len from Nat.min_eq_right h]
  rw[dF]at h2;obtain⟨w',ae,bF⟩:=b76 (n:=n) r hb hm (off:=off) (xs:=xs.take len) (by omega) h2 (λr hr=>fe r (List.mem_of_mem_take hr)) az;refine⟨goInt (xs.take len).length,w',ρ,?_,bF,by simp[goInt,VRel],Moves.same _ _ _⟩;simp only[Builtin.copy_,f7f,f4z,f4r,Sem.run_bind,a0c ok w hu,Result.andThen_ok,ak,a3a ok w bu,h1,ae,Sem.run_pure,d5]
 ·cases ha
def b8f(E:Env)(h:FHeap)(t:TypeId)(x:AV):Option (AV×Eff):=
 match E.und t,x with
 |some (.slice _),.nilslice=>some (.tuple [],.none)
 |some (.slice ac),.slice b off len _=>bif Nat.beq len 0 then some (.tuple [],.none)else match E.zero ac with
  |some z=>match h b with
   |some (.row kk aa)=>bif kk==E.sz ac&&Nat.ble (off+len) aa.length&&z.all AV.storable then
    some (.tuple [],.set b (.row kk (aa.take off++List.replicate len z++aa.drop (off+(List.replicate len z).length))))else none
   |_=>none
  |none=>none
 |_,_=>none
theorem a8j{z:List AV}{zs:List Value}(hz:VRels I w ρ z zs):∀n:Nat,VRels I w ρ (List.replicate n z).flatten (List.replicate n zs).flatten
 |0=>by simp[VRels]
 |n+1=>by rw[f8i,f8i,f7a,f7a];exact VRels.append hz (a8j hz n)
theorem d4o(ok:EnvOk E)(r:HRel E.G I K ρ h w){t:TypeId}{x v:AV}{e:Eff}{cx:Value}(ty:TypeId)
 (ha:b8f E h t x=some (v,e))(hx:VRel I w ρ x cx):Val E I K ρ h n w (Builtin.clear_ #[t] ty #[cx]) v e:=by
 unfold b8f at ha;split at ha
 ·rename_i ac hu;cases ha;simp only[VRel]at hx;subst hx;refine Val.here (c:=.tuple #[]) r ?_ (by simp only[VRel];exact⟨#[],rfl,by simp[VRels]⟩);simp[Builtin.clear_,a0c ok w hu]
 ·rename_i ac b off len cap hu;simp only[VRel]at hx;obtain⟨a,c,rfl,bf,_,bM⟩:=hx;rw[cond_eq_ite]at ha;split at ha
  ·rename_i h0;have h0:=f7o h0;subst h0;cases ha;refine Val.here (c:=.tuple #[]) r ?_ (by simp only[VRel];exact⟨#[],rfl,by simp[VRels]⟩);simp[Builtin.clear_,a0c ok w hu]
  rename_i h0;have fG:len≠0:=λe=>h0 (by subst e;rfl);split at ha
  case h_2=>cases ha
  rename_i z hz;split at ha
  case h_2=>cases ha
  rename_i kk aa hb;rw[cond_eq_ite]at ha;split at ha
  case isFalse=>cases ha
  rename_i cW;cases ha;simp only[f1d,f7u,f7k]at cW;obtain⟨⟨rfl,cG⟩,az⟩:=cW;rcases bM with rfl|⟨m,hm,rfl,bc⟩
  ·omega
  obtain⟨z',d8,gu,cJ⟩:=a7m ok w hz;have bT:=f9i (n:=len) (a:=z);obtain⟨w',ae,bF⟩:=b76 (n:=n) r hb hm (off:=off) (xs:=List.replicate len z) (new:=(List.replicate len z'.cells.toList).flatten) (by omega) (a8j (VRels.noRef_any (cJ I w)) len)
   (λr hr=>by rw[f4t hr];exact gu) (by rw[f4l];intro r hr;rw[f4t hr];exact az)
  refine⟨.tuple #[],w',ρ,?_,bF,by simp only[VRel];exact⟨#[],rfl,by simp[VRels]⟩,Moves.same _ _ _⟩;obtain⟨uk,rfl⟩:∃l,len=l+1:=⟨len-1,by omega⟩
  simp only[Builtin.clear_,f7f,f4z,Sem.run_bind,a0c ok w hu,Result.andThen_ok,d8,a5h,ae,Sem.run_pure]
 ·cases ha
end
end Go.Ax
/- AxMap: maps with d17 keys: lookup, update, delete. -/
namespace Go.Ax
section
variable {E:Env}{I K:Nat->Prop}{ρ:PMap}{h:FHeap}{n:Nat}{w:World}
def a6j:TypeDesc->Bool
 |.int _|.string|.bool=>true
 |_=>false
def c1u(E:Env)(t:TypeId):Bool:=
 match E.und t with
 |some (.struct fs)=>E.eqok t&&fs.toList.all λf=>match E.und f.type with|some d=>a6j d|none=>false
 |some d=>a6j d
 |none=>false
def c6s:AV->AV->Bool
 |.int k a,.int k' b=>k==k'&&a==b
 |.str a,.str b=>a==b
 |.bool a,.bool b=>a==b
 |_,_=>false
def b8b:List AV->List AV->Bool
 | [],[]=>true
 |a::as,b::bs=>c6s a b&&b8b as bs
 |_,_=>false
def d46:AV->AV->Bool
 |.agg a,.agg b=>b8b a b
 |a,b=>c6s a b
theorem c2s{a b:AV}(hs:c6s a b=true){ca cb:Value}(ha:VRel I w ρ a ca)(hb:VRel I w ρ b cb):ca=cb∧∀m,Instr.sameBits m ca cb=true:=by
 unfold c6s at hs;split at hs
 ·simp only[f1d,f7u]at hs;obtain⟨rfl,rfl⟩:=hs;simp only[VRel]at ha hb;subst ha hb;exact⟨rfl,λm=>by cases m<;>simp[Instr.sameBits]⟩
 ·simp only[f7u]at hs;subst hs;simp only[VRel]at ha hb;obtain⟨t,rfl,ht⟩:=ha;obtain⟨t',rfl,uy⟩:=hb;have:t=t':=by
   cases t;cases t';simp only[ByteArray.mk.injEq];exact Array.toList_inj.1 (ht.trans uy.symm)
  subst this;exact⟨rfl,λm=>by cases m<;>simp[Instr.sameBits,b5w]⟩
 ·simp only[f7u]at hs;subst hs;simp only[VRel]at ha hb;subst ha hb;exact⟨rfl,λm=>by cases m<;>simp[Instr.sameBits]⟩
 ·cases hs
theorem c2r:∀{as bs:List AV} {cs ds:List Value},b8b as bs=true->VRels I w ρ as cs->VRels I w ρ bs ds->
 cs=ds∧∀m,(cs.zip ds).all (λ(x,y)=>Instr.sameBits m x y)=true
 | [],[],cs,ds,_,ha,hb=>by simp only[VRels]at ha hb;subst ha hb;exact⟨rfl,by simp⟩
 |a::as,b::bs,cs,ds,hs,ha,hb=>by simp only[VRels]at ha hb;obtain⟨c,aO,rfl,h1,h2⟩:=ha;obtain⟨d,wh,rfl,h3,h4⟩:=hb;simp only[b8b,f1d]at hs;obtain⟨rfl,h5⟩:=c2s hs.1 h1 h3;obtain⟨rfl,h6⟩:=c2r hs.2 h2 h4;exact⟨rfl,λm=>by simp only[List.zip_cons_cons,List.all_cons,h5 m,f8f];exact h6 m⟩
 | [],_::_,cs,ds,hs,_,_=>by simp[b8b]at hs
 |_::_,[],cs,ds,hs,_,_=>by simp[b8b]at hs
theorem d88{a b:AV}(hs:d46 a b=true){ca cb:Value}(ha:VRel I w ρ a ca)(hb:VRel I w ρ b cb):ca=cb∧Instr.sameBits 10000 ca cb=true:=by
 unfold d46 at hs;split at hs
 ·simp only[VRel]at ha hb;obtain⟨ca,rfl,ha⟩:=ha;obtain⟨cb,rfl,hb⟩:=hb;obtain⟨he,h1⟩:=c2r hs ha hb;have he:ca=cb:=Array.toList_inj.1 he;subst he;refine⟨rfl,?_⟩;show(ca.size==ca.size&&(ca.toList.zip ca.toList).all λ(x,y)=>Instr.sameBits 9999 x y)=true;rw[h1 9999];simp
 ·obtain⟨h1,h2⟩:=c2s hs ha hb;exact⟨h1,h2 10000⟩
def a1t(eq:AV->AV->Option Bool)(k:AV):List AV->Nat->Option (Option Nat)
 | [],_=>some none
 |x::xs,i=>match eq k x with
  |some q=>bif q then some (some i)else a1t eq k xs (i+1)
  |none=>none
theorem b13(ok:EnvOk E){kt:TypeId}{k:AV}{ck:Value}(hk:VRel I w ρ k ck):∀{ks:List AV} {es:List MapEntry} {i:Nat} {r:Option Nat},
 a1t (aeq E 6 kt) k ks i=some r->VRels I w ρ ks (es.map (·.key))->
 (Instr.findAsking kt ck es i).run E.P w = .ok (r.map λj=>(j,((es[j-i]?).map (·.val)).getD undef)) w∧∀j,r=some j->i<=j∧j-i<es.length
 | [],es,i,r,hf,d6=>by simp only[VRels,List.map_eq_nil_iff]at d6;subst d6;simp only[a1t,Option.some.injEq]at hf;subst hf;exact⟨rfl,by simp⟩
 |x::ks,es,i,r,hf,d6=>by
  cases es with
  |nil=>simp[VRels]at d6
  |cons e es=>
   simp only[f1a,VRels,List.cons.injEq]at d6;obtain⟨c,cs,⟨rfl,rfl⟩,hx,d6⟩:=d6;simp only[a1t]at hf;split at hf
   case h_2=>cases hf
   rename_i q hq;have cS:=a5q ok hq hk hx;unfold Instr.findAsking;simp only[Sem.run_bind,cS,Result.andThen_ok];cases q with
   |true=>simp only[f2v,Option.some.injEq]at hf;subst hf;exact⟨by simp,by simp⟩
   |false=>
    simp only[f4i]at hf;obtain⟨h1,h2⟩:=b13 ok hk (es:=es) hf d6;simp only[f6t,f9d];rw[h1];refine⟨?_,λj hj=>?_⟩
    ·cases r with
     |none=>rfl
     |some j=>obtain⟨h3,h4⟩:=h2 j rfl;simp only[f2k];rw[show j-i=(j-(i+1))+1 by omega];simp
    ·obtain⟨h3,h4⟩:=h2 j hj;simp;omega
theorem e3e{t:TypeId}{k0:IntKind}(hu:E.und t=some (.int k0)){d:Nat}{x y:AV}{q:Bool}(hq:aeq E (d+1) t x y=some q):∃k a b,x = .int k a∧y = .int k b∧q=(a==b):=by
 unfold aeq at hq;rw[hu]at hq;split at hq
 case h_2=>
  rw[cond_eq_ite]at hq;split at hq
  ·rename_i hk;cases hq;have hk:=eq_of_beq hk;subst hk;exact⟨_,_,_,rfl,rfl,rfl⟩
  ·cases hq
 all_goals (try simp only[Option.some.injEq]at *);subst_vars;simp_all[a33]
theorem e3d{t:TypeId}(hu:E.und t=some .string){d:Nat}{x y:AV}{q:Bool}(hq:aeq E (d+1) t x y=some q):∃a b,x = .str a∧y = .str b∧q=(a==b):=by
 unfold aeq at hq;rw[hu]at hq;split at hq
 case h_3=>cases hq;exact⟨_,_,rfl,rfl,rfl⟩
 all_goals (try simp only[Option.some.injEq]at *);subst_vars;simp_all[a33]
theorem d8e{t:TypeId}(hu:E.und t=some .bool){d:Nat}{x y:AV}{q:Bool}(hq:aeq E (d+1) t x y=some q):∃a b,x = .bool a∧y = .bool b∧q=(a==b):=by
 unfold aeq at hq;rw[hu]at hq;split at hq
 case h_1=>cases hq;exact⟨_,_,rfl,rfl,rfl⟩
 all_goals (try simp only[Option.some.injEq]at *);subst_vars;simp_all[a33]
theorem c7m{d:TypeDesc}(hd:a6j d=true){kt:TypeId}(hu:E.und kt=some d){k x:AV}{ck cx:Value}{q:Bool}(hk:VRel I w ρ k ck)(hx:VRel I w ρ x cx)
 (hq:aeq E 6 kt k x=some q):Instr.sameNow d ck cx=some q:=by
 cases d<;>simp[a6j]at hd
 ·obtain⟨a,b,rfl,rfl,rfl⟩:=d8e hu hq;simp only[VRel]at hk hx;subst hk hx;rfl
 ·obtain⟨kk,a,b,rfl,rfl,rfl⟩:=e3e hu hq;simp only[VRel]at hk hx;subst hk hx;simp[Instr.sameNow]
 ·obtain⟨a,b,rfl,rfl,rfl⟩:=e3d hu hq;simp only[VRel]at hk hx;obtain⟨t,rfl,rfl⟩:=hk;obtain⟨t',rfl,rfl⟩:=hx;simp only[Instr.sameNow,b5w]
theorem b7z{k:AV}{ck:Value}{d:TypeDesc}(hd:a6j d=true){kt:TypeId}(hu:E.und kt=some d)(hk:VRel I w ρ k ck):∀{ks:List AV} {es:List MapEntry} {i:Nat} {r:Option Nat},
 a1t (aeq E 6 kt) k ks i=some r->VRels I w ρ ks (es.map (·.key))->
 Instr.findNow d ck es i=some (r.map λj=>(j,((es[j-i]?).map (·.val)).getD undef))∧∀j,r=some j->i<=j∧j-i<es.length
 | [],es,i,r,hf,d6=>by simp only[VRels,List.map_eq_nil_iff]at d6;subst d6;simp only[a1t,Option.some.injEq]at hf;subst hf;exact⟨rfl,by simp⟩
 |x::ks,es,i,r,hf,d6=>by
  cases es with
  |nil=>simp[VRels]at d6
  |cons e es=>
   simp only[f1a,VRels,List.cons.injEq]at d6;obtain⟨c,cs,⟨rfl,rfl⟩,hx,d6⟩:=d6;simp only[a1t]at hf;split at hf
   case h_2=>cases hf
   rename_i q hq;have aj:=c7m hd hu hk hx hq;unfold Instr.findNow;rw[aj];cases q with
   |true=>simp only[f2v,Option.some.injEq]at hf;subst hf;exact⟨by simp,by simp⟩
   |false=>
    simp only[f4i]at hf;obtain⟨h1,h2⟩:=b7z hd hu hk (es:=es) hf d6;dsimp only;rw[h1];refine⟨?_,λj hj=>?_⟩
    ·cases r with
     |none=>rfl
     |some j=>obtain⟨h3,h4⟩:=h2 j rfl;simp only[f2k];rw[show j-i=(j-(i+1))+1 by omega];simp
    ·obtain⟨h3,h4⟩:=h2 j hj;simp;omega
theorem b6j{ck:Value}{fs:Array Field}:∀(es:List MapEntry) (i:Nat),Instr.findNow (.struct fs) ck es i=if es=[]then some none else none
 | [],i=>by simp[Instr.findNow]
 |e::es,i=>by simp[Instr.findNow,Instr.sameNow]
theorem b21(ok:EnvOk E){kt:TypeId}(qB:c1u E kt=true){k:AV}{ck:Value}(hk:VRel I w ρ k ck){ks:List AV}{es:List MapEntry}{r:Option Nat}
 (hf:a1t (aeq E 6 kt) k ks 0=some r)(d6:VRels I w ρ ks (es.map (·.key))) :
 (Instr.findKey kt ck es).run E.P w = .ok (r.map λj=>(j,((es[j]?).map (·.val)).getD undef)) w∧∀j,r=some j->j<es.length:=by
 unfold c1u at qB;split at qB
 ·rename_i fs hu;obtain⟨h1,h2⟩:=b13 ok hk hf d6;refine⟨?_,λj hj=>(h2 j hj).2⟩;unfold Instr.findKey;simp only[Sem.run_bind,a0c ok w hu,Result.andThen_ok,b6j];by_cases he:es=[]
  ·subst he;simp at d6;have:ks=[]:=by cases ks with|nil=>rfl|cons a b=>simp[VRels]at d6
   subst this;simp only[a1t,Option.some.injEq]at hf;subst hf;simp
  ·simp only[he,f9d];simpa using h1
 ·rename_i d _ hu;obtain⟨h1,h2⟩:=b7z qB hu hk hf d6;refine⟨?_,λj hj=>(h2 j hj).2⟩;unfold Instr.findKey;simp only[Sem.run_bind,a0c ok w hu,Result.andThen_ok,h1];simp
 ·cases qB
theorem a48(ok:EnvOk E){t:TypeId}{d:TypeDesc}(hd:a6j d=true)(hu:E.und t=some d)(b:Bool)(m:Nat)(c:Value):(Instr.checkKey b (m+1) t c).run E.P w = .ok () w:=by unfold Instr.checkKey;simp only[Sem.run_bind,a0c ok w hu,Result.andThen_ok];cases d<;>simp[a6j]at hd<;>rfl
def b3h(E:Env):List Field->List AV->Bool
 | [],_=>true
 |f::fs,cs=>(a2r E f.type ((cs.drop f.offset).take (E.sz f.type))).isSome&&b3h E fs cs
def b7m(E:Env)(t:TypeId)(x:AV):Bool:=
 match E.und t,x with
 |some (.struct fs),.agg cs=>b3h E fs.toList cs
 |some (.struct _),_=>false
 |_,_=>true
theorem b5s(ok:EnvOk E){t:TypeId}(ht:c1u E t=true){x:AV}{c:Value}(hx:VRel I w ρ x c)(hv:b7m E t x=true)(b:Bool):(Instr.checkKey b 10000 t c).run E.P w = .ok () w:=by
 unfold c1u at ht;split at ht
 ·rename_i fs hu;simp only[f1d]at ht;unfold b7m at hv;rw[hu]at hv;cases x<;>simp at hv;rename_i cs;simp only[VRel]at hx;obtain⟨cv,rfl,hc⟩:=hx;obtain⟨_,_,_,iJ⟩:=ok.eqok t ht.1;unfold Instr.checkKey;simp only[Sem.run_bind,a0c ok w hu,Result.andThen_ok];have key:∀(l:List Field),(∀f∈l,f∈fs.toList)->b3h E l cs=true->
   (forIn l () (λf _=>if f.name≠ "_" then do
    Instr.checkKey b 9999 f.type (<-part f.type cv f.offset)
    pure (ForInStep.yield ())
    else pure (ForInStep.yield ()):Field->Unit->Sem (ForInStep Unit))).run E.P w = .ok () w:=by
   intro l
   induction l with
   |nil=>intro _ _;simp
   |cons f l ih=>
    intro hm hp;simp only[b3h,f1d]at hp;obtain⟨v,hv⟩:=f1j.1 hp.1;obtain⟨cc,h1,_⟩:=a9k ok hv hc;have hf:=hm f (by simp);have jq:=f4l.1 ht.2 f hf;split at jq
    case h_2=>cases jq
    rename_i d hd;have kh:=iJ fs hu f hf;rw[List.forIn_cons];simp only[ne_eq,kh,not_false_eq_true,f7i,Sem.run_bind,h1,Result.andThen_ok,a48 ok jq hd,Sem.run_pure];exact ih (λg hg=>hm g (by simp[hg])) hp.2
  rw[<-Array.forIn_toList];exact(congrArg (λr=>Result.andThen r (λ_ w'=>(pure ():Sem Unit).run E.P w')) (key fs.toList (λ_ h=>h) hv)).trans rfl
 ·rename_i d _ hu;exact a48 ok ht hu b 9999 c
 ·cases ht
def b2x(h:FHeap):AV->Option (List AV×List AV)
 |.nilmap=>some ([],[])
 |.imap ks vs _ _=>some (ks,vs)
 |.map b=>match h b with
  |some (.map ks vs _ _)=>some (ks,vs)
  |_=>none
 |_=>none
def a5e(E:Env)(h:FHeap)(t:TypeId)(x k:AV)(ok:Bool):Option AV:=
 match E.und t with
 |some (.map kt et)=>bif c1u E kt&&b7m E kt k then
  match b2x h x,E.zero et,E.und et with
  |some (ks,vs),some z,some d=>match a1t (aeq E 6 kt) k ks 0 with
   |some (some i)=>match vs[i]? with
    |some v=>some (bif ok then .tuple [v,.bool true]else v)
    |none=>none
   |some none=>bif a2m d then some (bif ok then .tuple [.agg z,.bool false]else .agg z)else
    match z with
    | [v]=>some (bif ok then .tuple [v,.bool false]else v)
    |_=>none
   |none=>none
  |_,_,_=>none
  else none
 |_=>none
theorem d4f(r:HRel E.G I K ρ h w){x:AV}{ks vs:List AV}{c:Value}(ha:b2x h x=some (ks,vs))(hx:VRel I w ρ x c) :
 (c = .map none∧ks=[]∧vs=[])∨∃b es cl,c = .map (some b)∧w.heap[b]?=some (.map es cl)∧VRels I w ρ ks (es.toList.map (·.key))∧VRels I w ρ vs (es.toList.map (·.val)):=by
 unfold b2x at ha;split at ha
 ·cases ha;simp only[VRel]at hx;exact .inl ⟨hx,rfl,rfl⟩
 ·cases ha;simp only[VRel]at hx;obtain⟨b,es,rfl,_,he,h1,h2,_⟩:=hx;exact .inr ⟨b,es,_,rfl,he,VRels.noRef_any h1,VRels.noRef_any h2⟩
 ·rename_i b;split at ha
  case h_2=>cases ha
  rename_i ld eX bs cl hb;cases ha;simp only[VRel]at hx;obtain⟨m,hm,rfl⟩:=hx;obtain⟨m',bl,_,_,ho⟩:=r.live b _ hb;obtain rfl:m=m':=z9o (hm.symm.trans bl);obtain⟨es,he,h1,h2,_⟩:=ho;exact .inr ⟨m.blk,es,cl,rfl,he,h1,h2⟩
 ·cases ha
theorem b8k(ok:EnvOk E){t:TypeId}{d:TypeDesc}{z:List AV}{zv:Value}(hd:E.und t=some d)(hz:E.zero t=some z)(e9:(zeroValue t).run E.P w = .ok zv w) :
 (a2m d=true->∃a,zv = .agg a)∧(a2m d=false->zv.cells = #[zv]):=by
 obtain⟨_,i,z',hi,d8,_⟩:=ok.zero t z hz;have:zv=z':=by simp[zeroValue,typeInfo,hi,d8]at e9;exact e9.symm
 subst this;exact ok.zshape t d i zv hd hi d8
theorem c9a(ok:EnvOk E)(r:HRel E.G I K ρ h w){t:TypeId}{x k v:AV}{c ck:Value}{b:Bool}(hv:a5e E h t x k b=some v)(hx:VRel I w ρ x c)(hk:VRel I w ρ k ck) :
 Val E I K ρ h n w (Instr.lookup t c ck b) v .none:=by
 unfold a5e at hv;split at hv
 case h_2=>cases hv
 rename_i kt et hu;rw[cond_eq_ite]at hv;split at hv
 case isFalse=>cases hv
 rename_i cU;simp only[f1d]at cU;split at hv
 case h_2=>cases hv
 rename_i ks vs z d hm hz hd;obtain⟨zv,e9,_,bJ⟩:=a7m ok w hz;have cJ:VRels I w ρ z zv.cells.toList:=VRels.noRef_any (bJ I w);have ji:∃es:List MapEntry,((c = .map none∧es=[])∨∃b cl,c = .map (some b)∧w.heap[b]?=some (.map es.toArray cl))∧VRels I w ρ ks (es.map (·.key))∧VRels I w ρ vs (es.map (·.val)):=by
  rcases d4f r hm hx with ⟨rfl,rfl,rfl⟩|⟨b,es,cl,rfl,he,h1,h2⟩
  ·exact⟨[],.inl ⟨rfl,rfl⟩,by simp[VRels],by simp[VRels]⟩
  ·exact⟨es.toList,.inr ⟨b,cl,rfl,by simpa using he⟩,h1,h2⟩
 obtain⟨es,ae,d6,dV⟩:=ji;cases hf:a1t (aeq E 6 kt) k ks 0 with
 |none=>simp[hf]at hv
 |some ri=>
  obtain⟨iO,ai⟩:=b21 ok cU.1 hk hf d6;have aR:=b5s ok cU.1 hk cU.2 es.toArray.isEmpty;simp only[hf]at hv;cases ri with
  |some i=>
   simp only at hv;cases oY:vs[i]? with
   |none=>simp[oY]at hv
   |some v0=>
    simp only[oY,Option.some.injEq]at hv;obtain⟨cv,aZ,oa⟩:=VRels.get i dV oY;have cD:((es[i]?).map (·.val)).getD undef=cv:=by rw[f1l]at aZ;rw[aZ];rfl
    refine Val.here (c:=if b then .tuple #[cv,.bool true]else cv) r ?_ ?_
    ·rcases ae with ⟨rfl,rfl⟩|⟨b',cl,rfl,he⟩
     ·simp at aZ
     ·simp only[Instr.lookup,Sem.run_bind,a0c ok w hu,Result.andThen_ok,getObj,Sem.run,he,Sem.run_pure,aR,iO,f2k,cD]
    ·subst hv;cases b
     ·exact oa
     ·simp only[f2v,f7i,VRel];exact⟨_,rfl,by simp only[VRels];exact⟨_,_,rfl,oa,_,_,rfl,by simp[VRel],rfl⟩⟩
  |none=>
   simp only at hv;have pB:(Instr.lookup t c ck b).run E.P w = .ok (if b then .tuple #[zv,.bool false]else zv) w:=by
    rcases ae with ⟨rfl,rfl⟩|⟨b',cl,rfl,he⟩
    ·simp only[Instr.lookup,Sem.run_bind,a0c ok w hu,Result.andThen_ok,Sem.run_pure,aR,iO,Option.map_none,e9]
    ·simp only[Instr.lookup,Sem.run_bind,a0c ok w hu,Result.andThen_ok,getObj,Sem.run,he,Sem.run_pure,aR,iO,Option.map_none,e9]
   have fin:∀v0,VRel I w ρ v0 zv->(bif b then AV.tuple [v0,.bool false]else v0)=v->Val E I K ρ h n w (Instr.lookup t c ck b) v .none:=by
    intro v0 h0 lu;refine Val.here r pB ?_;subst lu;cases b
    ·exact h0
    ·simp only[f2v,f7i,VRel];exact⟨_,rfl,by simp only[VRels];exact⟨_,_,rfl,h0,_,_,rfl,by simp[VRel],rfl⟩⟩
   rw[cond_eq_ite]at hv;split at hv
   ·rename_i eo;obtain⟨a,rfl⟩:=(b8k ok hd hz e9).1 eo;simp only[Option.some.injEq]at hv;exact fin (.agg z) (by simp only[VRel];exact⟨a,rfl,cJ⟩) hv
   ·rename_i eo;split at hv
    case h_2=>cases hv
    rename_i v0 _;simp only[Option.some.injEq]at hv;have hc:=(b8k ok hd hz e9).2 (by simpa using eo);rw[hc]at cJ;simp only[VRels]at cJ;obtain⟨c0,qS,he,h0,_⟩:=cJ;simp only[List.cons.injEq]at he;exact fin v0 (by rw[he.1];exact h0) hv
end
end Go.Ax
/- AxMap2: maps that are b3t. -/
namespace Go.Ax
section
variable {E:Env}{I K:Nat->Prop}{ρ:PMap}{h:FHeap}{n:Nat}{w:World}
def a97(E:Env)(h:FHeap)(t:TypeId)(m k:AV):Option (Nat×List AV×List AV×List Nat×Nat×Option Nat):=
 match E.und t,m with
 |some (.map kt _),.map b=>bif c1u E kt&&b7m E kt k then
  match h b with
  |some (.map ks vs bs cl)=>match a1t (aeq E 6 kt) k ks 0 with
   |some (some i)=>match ks[i]? with
    |some k0=>bif d46 k0 k then some (b,ks,vs,bs,cl,some i)else none
    |none=>none
   |some none=>some (b,ks,vs,bs,cl,none)
   |none=>none
  |_=>none
  else none
 |_,_=>none
def a21(E:Env)(h:FHeap)(t:TypeId)(m k v:AV):Option Eff:=
 match a97 E h t m k with
 |some (b,ks,vs,bs,cl,some i)=>some (.set b (.map ks (vs.set i v) bs cl))
 |some (b,ks,vs,bs,cl,none)=>some (.set b (.map (ks++[k]) (vs++[v]) (bs++[cl]) (cl+1)))
 |none=>none
theorem a56{ks:List AV}{es:Array MapEntry}(i:Nat)(f:MapEntry->MapEntry)(hf:∀e,es[i]?=some e->(f e).key=e.key)(hk:VRels I w ρ ks (es.toList.map (·.key))) :
 VRels I w ρ ks ((es.modify i f).toList.map (·.key)):=by
 have:(es.modify i f).toList.map (·.key)=es.toList.map (·.key):=by
  apply f4x;intro j;simp only[f1l,f8h,Array.getElem?_modify];split
  ·rename_i hj;subst hj;cases he:es[i]? with
   |none=>simp
   |some e=>simp[hf e he]
  ·rfl
 rw[this];exact hk
theorem a72{vs:List AV}{v:AV}{c:Value}{es:Array MapEntry}(i:Nat)(f:MapEntry->MapEntry)(hf:∀e,(f e).val=c)(hv:VRel I w ρ v c)(hk:VRels I w ρ vs (es.toList.map (·.val))) :
 VRels I w ρ (vs.set i v) ((es.modify i f).toList.map (·.val)):=by
 have:(es.modify i f).toList.map (·.val)=(es.toList.map (·.val)).set i c:=by
  apply f4x;intro j;simp only[f1l,f8h,Array.getElem?_modify,f3a,c10,f4p];split
  ·rename_i hj;subst hj;split
   ·rename_i ai;simp[ai,hf]
   ·rename_i ai;simp[Array.getElem?_eq_none (Nat.le_of_not_lt ai)]
  ·rfl
 rw[this];exact VRels.set i hk hv
theorem a95{es:Array MapEntry}(i:Nat)(f:MapEntry->MapEntry)(hf:∀e,(f e).born=e.born):(es.modify i f).toList.map (·.born)=es.toList.map (·.born):=by
 apply f4x;intro j;simp only[f1l,f8h,Array.getElem?_modify];split
 ·rename_i hj;subst hj;cases es[i]?<;>simp[hf]
 ·rfl
theorem a3v{b:Nat}{es:Array MapEntry}{cl:Nat}(o:Obj)(he:w.heap[b]?=some (.map es cl)):(setObj b o).run E.P w = .ok () { w with heap:=w.heap.setIfInBounds b o }:=by simp[setObj,Sem.run,he]
theorem a6c(r:HRel E.G I K ρ h w){b:Nat}{m:Pl}{o0:AObj}(hb:h b=some o0)(hm:ρ b=some m){es dI:Array MapEntry}{cl ir:Nat}(he:w.heap[m.blk]?=some (.map es cl))
 {ks vs:List AV}{bs:List Nat}(hk:VRels I w ρ ks (dI.toList.map (·.key)))(hv:VRels I w ρ vs (dI.toList.map (·.val)))(sr:dI.toList.map (·.born)=bs) :
 Stepped E.G I K ρ w I ρ (h.eff n (.set b (.map ks vs bs ir))) { w with heap:=w.heap.setIfInBounds m.blk (.map dI ir) }:=by
 have ai:m.blk<w.heap.size:=(f5b.1 he).1;obtain⟨m',bl,dY,_,_⟩:=r.live b _ hb;obtain rfl:m=m':=z9o (hm.symm.trans bl);have bL:∀c,c≠m.blk->({ w with heap:=w.heap.setIfInBounds m.blk (.map dI ir) }:World).heap[c]?=w.heap[c]?:=by intro c hc;show(w.heap.setIfInBounds _ _)[c]?=_;rw[f5a,f2m (λh=>hc h.symm)]
 have da:∀c,I c->({ w with heap:=w.heap.setIfInBounds m.blk (.map dI ir) }:World).heap[c]?=w.heap[c]?:=λc hc=>bL c (λe=>dY (e▸hc));refine a2d r hb hm (by simp) bL rfl rfl rfl ?_;refine⟨dI,?_,VRels.mono (λ_ h=>h) da ks (λ_ _ h=>h) hk,VRels.mono (λ_ h=>h) da vs (λ_ _ h=>h) hv,sr⟩;show(w.heap.setIfInBounds _ _)[_]?=_;rw[f5a,f2w rfl,f2w ai]
theorem b1a(ok:EnvOk E)(r:HRel E.G I K ρ h w){t:TypeId}{m k:AV}{c ck:Value}{b cl:Nat}{ks vs:List AV}{bs:List Nat}{oi:Option Nat}
 (hp:a97 E h t m k=some (b,ks,vs,bs,cl,oi))(hm:VRel I w ρ m c)(hk:VRel I w ρ k ck) :
 ∃(pl:Pl) (es:Array MapEntry) (kt et:TypeId),c = .map (some pl.blk)∧h b=some (.map ks vs bs cl)∧ρ b=some pl∧w.heap[pl.blk]?=some (.map es cl)∧
  VRels I w ρ ks (es.toList.map (·.key))∧VRels I w ρ vs (es.toList.map (·.val))∧es.toList.map (·.born)=bs∧(underlying t).run E.P w = .ok (.map kt et) w∧E.und t=some (.map kt et)∧
  (Instr.checkKey false 10000 kt ck).run E.P w = .ok () w∧
  (Instr.findKey kt ck es.toList).run E.P w = .ok (oi.map λj=>(j,((es.toList[j]?).map (·.val)).getD undef)) w∧
  (∀i,oi=some i->∃e,es[i]?=some e∧e.key=ck∧Instr.sameBits 10000 e.key ck=true):=by
 unfold a97 at hp;split at hp
 case h_2=>cases hp
 rename_i kt et b' hu;rw[cond_eq_ite]at hp;split at hp
 case isFalse=>cases hp
 rename_i cU;simp only[f1d]at cU;split at hp
 case h_2=>cases hp
 rename_i ld eX wl ir hb;simp only[VRel]at hm;obtain⟨pl,bU,rfl⟩:=hm;obtain⟨m',bl,_,_,ho⟩:=r.live b' _ hb;obtain rfl:pl=m':=z9o (bU.symm.trans bl);obtain⟨es,he,h1,h2,h3⟩:=ho;have aR:=b5s (w:=w) ok cU.1 hk cU.2 false;split at hp
 ·rename_i i hf;split at hp
  case h_2=>cases hp
  rename_i k0 hk0;rw[cond_eq_ite]at hp;split at hp
  case isFalse=>cases hp
  rename_i hs;cases hp;obtain⟨iO,ai⟩:=b21 ok cU.1 hk hf h1;obtain⟨cv,aZ,oa⟩:=VRels.get i h1 hk0;obtain⟨cS,m8⟩:=d88 hs oa hk;rw[f1l]at aZ;cases jI:es.toList[i]? with
  |none=>rw[jI]at aZ;cases aZ
  |some e=>rw[jI]at aZ;simp only[f2k,Option.some.injEq]at aZ;refine⟨pl,es,kt,et,rfl,hb,bU,he,h1,h2,h3,a0c ok w hu,hu,aR,iO,?_⟩;intro i' jw;cases jw;exact⟨e,by simpa using jI,by rw[aZ];exact cS,by rw[aZ];exact m8⟩
 ·rename_i hf;cases hp;obtain⟨iO,ai⟩:=b21 ok cU.1 hk hf h1;exact⟨pl,es,kt,et,rfl,hb,bU,he,h1,h2,h3,a0c ok w hu,hu,aR,iO,λi hi=>by cases hi⟩
 ·cases hp
theorem b1c(ok:EnvOk E)(r:HRel E.G I K ρ h w){t:TypeId}{m k v:AV}{c ck cv:Value}{e:Eff}(hu:a21 E h t m k v=some e)(hm:VRel I w ρ m c)(hk:VRel I w ρ k ck)(hv:VRel I w ρ v cv) :
 e85 E I K ρ h n w (Instr.mapUpdate t c ck cv) e:=by
 unfold a21 at hu;split at hu
 ·rename_i b ks vs bs cl i hp;cases hu;obtain⟨pl,es,kt,et,rfl,hb,bU,he,h1,h2,h3,ga,_,aR,iO,hi⟩:=b1a ok r hp hm hk;obtain⟨e,jI,r9,m8⟩:=hi i rfl;refine⟨_,ρ,?_,a6c (dI:=es.modify i λe=>{ e with key:=ck,val:=cv }) r hb bU he ?_ ?_ ?_,Moves.same _ _ _⟩
  ·have:((es[i]?).map (·.key)).getD ck=e.key:=by simp[jI]
   simp only[Instr.mapUpdate,Sem.run_bind,ga,Result.andThen_ok,getObj,Sem.run,he,aR,iO,f2k,this,Instr.keyThatStays,m8,f7i,Sem.run_pure,a3v _ he]
  ·exact a56 i _ (λe' fJ=>by rw[jI]at fJ;cases fJ;exact r9.symm) h1
  ·exact a72 i _ (λ_=>rfl) hv h2
  ·exact(a95 (es:=es) i (λe=>{ e with key:=ck,val:=cv }) (λ_=>rfl)).trans h3
 ·rename_i b ks vs bs cl hp;cases hu;obtain⟨pl,es,kt,et,rfl,hb,bU,he,h1,h2,h3,ga,_,aR,iO,_⟩:=b1a ok r hp hm hk;refine⟨_,ρ,?_,a6c (dI:=es.push { key:=ck,val:=cv,born:=cl }) (ir:=cl+1) r hb bU he ?_ ?_ ?_,Moves.same _ _ _⟩
  ·simp only[Instr.mapUpdate,Sem.run_bind,ga,Result.andThen_ok,getObj,Sem.run,he,aR,iO,Option.map_none,a3v _ he]
  ·simp only[f8u,f2t,f1a,f1g];exact VRels.append h1 (by simp only[VRels];exact⟨_,_,rfl,hk,rfl⟩)
  ·simp only[f8u,f2t,f1a,f1g];exact VRels.append h2 (by simp only[VRels];exact⟨_,_,rfl,hv,rfl⟩)
  ·simp[h3]
 ·cases hu
def c30(d:TypeDesc)(z:List AV):Option AV:=bif a2m d then some (.agg z)else match z with|[v]=>some v|_=>none
def b1d(E:Env)(h:FHeap)(t:TypeId)(m k:AV):Option (AV×Eff):=
 match a97 E h t m k with
 |some (b,ks,vs,bs,cl,some i)=>match vs[i]?,bs[i]? with
  |some v,some s=>some (.tuple [v,.int .i64 s],.set b (.map ks vs bs cl))
  |_,_=>none
 |some (b,ks,vs,bs,cl,none)=>match E.und t with
  |some (.map _ et)=>match E.zero et,E.und et with
   |some z,some d=>match c30 d z with
    |some v=>some (.tuple [v,.int .i64 cl],.set b (.map (ks++[k]) (vs++[v]) (bs++[cl]) (cl+1)))
    |none=>none
   |_,_=>none
  |_=>none
 |none=>none
theorem d53(ok:EnvOk E){t:TypeId}{d:TypeDesc}{z:List AV}{v:AV}(hd:E.und t=some d)(hz:E.zero t=some z)
 (hv:c30 d z=some v):∃zv,(∀w',(zeroValue t).run E.P w' = .ok zv w')∧∀I w' ρ,VRel I w' ρ v zv:=by
 obtain⟨_,i,z',hi,d8,_,bJ⟩:=ok.zero t z hz;have ae:∀w',(zeroValue t).run E.P w' = .ok z' w':=λw'=>by simp[zeroValue,typeInfo,hi,d8]
 obtain⟨s1,s2⟩:=ok.zshape t d i z' hd hi d8;refine⟨z',ae,λI w' ρ=>?_⟩;have cJ:VRels I w' ρ z z'.cells.toList:=VRels.noRef_any (bJ I w');unfold c30 at hv;rw[cond_eq_ite]at hv;split at hv
 ·rename_i eo;obtain⟨a,rfl⟩:=s1 eo;simp only[Option.some.injEq]at hv;subst hv;simp only[VRel];exact⟨a,rfl,cJ⟩
 ·rename_i eo;split at hv
  case h_2=>cases hv
  cases hv;rw[s2 (by simpa using eo)]at cJ;simp only[VRels]at cJ;obtain⟨c0,qS,he,h0,_⟩:=cJ;simp only[List.cons.injEq]at he;rw[he.1];exact h0
theorem c2w(ok:EnvOk E)(r:HRel E.G I K ρ h w){t:TypeId}{m k v:AV}{c ck:Value}{e:Eff}(hu:b1d E h t m k=some (v,e))(hm:VRel I w ρ m c)(hk:VRel I w ρ k ck) :
 Val E I K ρ h n w (Instr.mapEntry t c ck) v e:=by
 unfold b1d at hu;split at hu
 ·rename_i b ks vs bs cl i hp;split at hu
  case h_2=>cases hu
  rename_i v0 s lu hs;cases hu;obtain⟨pl,es,kt,et,rfl,hb,bU,he,h1,h2,h3,ga,_,aR,iO,hi⟩:=b1a ok r hp hm hk;obtain⟨e,jI,r9,m8⟩:=hi i rfl;obtain⟨cv,aZ,oa⟩:=VRels.get i h2 lu;have az:(es.toList.map (·.born))[i]?=some s:=by rw[h3];exact hs
  rw[f1l]at aZ az;have se:es.toList[i]?=some e:=by simpa using jI
  rw[se]at aZ az;simp only[f2k,Option.some.injEq]at aZ az;have step:=a6c (n:=n) (dI:=es.modify i λe=>{ e with key:=ck }) (ir:=cl) r hb bU he (a56 i _ (λe' fJ=>by rw[jI]at fJ;cases fJ;exact r9.symm) h1)
   (show VRels I w ρ vs _ by
    have:(es.modify i λe=>{ e with key:=ck }).toList.map (·.val)=es.toList.map (·.val):=by
     apply f4x;intro j;simp only[f1l,f8h,Array.getElem?_modify];split
     ·rename_i hj;subst hj;cases es[i]?<;>simp
     ·rfl
    rw[this];exact h2) ((a95 (es:=es) i (λe=>{ e with key:=ck }) (λ_=>rfl)).trans h3)
  refine⟨.tuple #[cv,goInt s],_,ρ,?_,step,?_,Moves.same _ _ _⟩
  ·have h5:((es[i]?).map (·.key)).getD ck=e.key:=by simp[jI]
   have h6:((es[i]?).map (λx=>(x.born:Int))).getD 0=s:=by simp[jI,az]
   have h7:((es.toList[i]?).map (·.val)).getD undef=cv:=by simp[jI,aZ]
   simp only[Instr.mapEntry,Sem.run_bind,ga,Result.andThen_ok,getObj,Sem.run,he,aR,iO,f2k,h5,h6,h7,Instr.keyThatStays,m8,f7i,Sem.run_pure,a3v _ he]
  ·refine step.vrel ?_;simp only[VRel];exact⟨_,rfl,by simp only[VRels];exact⟨_,_,rfl,oa,_,_,rfl,by simp[VRel,goInt],rfl⟩⟩
 ·rename_i b ks vs bs cl hp;split at hu
  case h_2=>cases hu
  rename_i vL et oZ;split at hu
  case h_2=>cases hu
  rename_i z d hz hd;split at hu
  case h_2=>cases hu
  rename_i v0 lu;cases hu;obtain⟨pl,es,kt,we,rfl,hb,bU,he,h1,h2,h3,ga,jY,aR,iO,_⟩:=b1a ok r hp hm hk;rw[oZ]at jY;simp only[Option.some.injEq,TypeDesc.map.injEq]at jY;obtain⟨rfl,rfl⟩:=jY;obtain⟨zv,e9,cJ⟩:=d53 ok hd hz lu;have step:=a6c (n:=n) (dI:=es.push { key:=ck,val:=zv,born:=cl }) (ir:=cl+1) (ks:=ks++[k]) (vs:=vs++[v0]) (bs:=bs++[cl]) r hb bU he
   (by simp only[f8u,f2t,f1a,f1g];exact VRels.append h1 (by simp only[VRels];exact⟨_,_,rfl,hk,rfl⟩))
   (by simp only[f8u,f2t,f1a,f1g];exact VRels.append h2 (by simp only[VRels];exact⟨_,_,rfl,cJ _ _ _,rfl⟩)) (by simp[h3])
  refine⟨.tuple #[zv,goInt cl],_,ρ,?_,step,?_,Moves.same _ _ _⟩
  ·simp only[Instr.mapEntry,Sem.run_bind,ga,Result.andThen_ok,getObj,Sem.run,he,aR,iO,Option.map_none,e9,a3v _ he,Sem.run_pure]
  ·simp only[VRel];exact⟨_,rfl,by simp only[VRels];exact⟨_,_,rfl,cJ _ _ _,_,_,rfl,by simp[VRel,goInt],rfl⟩⟩
 ·cases hu
def a5f(h:FHeap)(m s v:AV):Option Eff:=
 match m,s with
 |.map b,.int _ i=>match h b with
  |some (.map ks vs bs cl)=>match bs.findIdx? (λ(x:Nat)=>(x:Int)==i)with
   |some j=>some (.set b (.map ks (vs.set j v) bs cl))
   |none=>none
  |_=>none
 |_,_=>none
theorem b6n(r:HRel E.G I K ρ h w){t:TypeId}{m s v:AV}{c cs cv:Value}{e:Eff}(hu:a5f h m s v=some e)(hm:VRel I w ρ m c)(hs:VRel I w ρ s cs)(hv:VRel I w ρ v cv) :
 e85 E I K ρ h n w (Instr.entryStore t c cs cv) e:=by
 unfold a5f at hu;split at hu
 case h_2=>cases hu
 rename_i b kk i;split at hu
 case h_2=>cases hu
 rename_i ks vs bs cl hb;split at hu
 case h_2=>cases hu
 rename_i j hj;cases hu;simp only[VRel]at hm hs;obtain⟨pl,bU,rfl⟩:=hm;subst hs;obtain⟨m',bl,_,_,ho⟩:=r.live b _ hb;obtain rfl:pl=m':=z9o (bU.symm.trans bl);obtain⟨es,he,h1,h2,h3⟩:=ho;have nv:es.findIdx? (λe=>(e.born:Int)==i)=some j:=by rw[<-h3,List.findIdx?_map]at hj;rw[show es.findIdx? (λe=>(e.born:Int)==i)=es.toList.findIdx? (λe=>(e.born:Int)==i) by cases es;simp];exact hj
 refine⟨_,ρ,?_,a6c (dI:=es.modify j λe=>{ e with val:=cv }) r hb bU he ?_ ?_ ?_,Moves.same _ _ _⟩
 ·simp only[Instr.entryStore,Sem.run_bind,getObj,Sem.run,he,Result.andThen_ok,asInt,asIntOf,Sem.run_pure,nv,a3v _ he]
 ·exact a56 j _ (λ_ _=>rfl) h1
 ·exact a72 j _ (λ_=>rfl) hv h2
 ·exact(a95 (es:=es) j (λe=>{ e with val:=cv }) (λ_=>rfl)).trans h3
end
end Go.Ax
/- AxSet: sets of numbers: lookup, update, delete, ranging. -/
namespace Go.Ax
section
variable {E:Env}{I K:Nat->Prop}{ρ:PMap}{h:FHeap}{n:Nat}{w:World}
def oor{α:Type}(a b:Option α):Option α:=match a with
 |some x=>some x
 |none=>b
theorem b0b{α:Type}{a b:Option α}{x:α}(h:oor a b=some x):a=some x∨b=some x:=by
 cases a with
 |none=>exact .inr h
 |some y=>exact .inl h
def e6n:Option TypeDesc->Bool
 |some (.int .i64)=>true
 |_=>false
def d2h:Option TypeDesc->Bool
 |some .bool=>true
 |_=>false
def c5v:Option (List AV)->Bool
 |some [.bool b]=>!b
 |_=>false
def b8m(E:Env)(t:TypeId):Bool:=match E.und t with
 |some (.map kt et)=>e6n (E.und kt)&&(d2h (E.und et)&&c5v (E.zero et))
 |_=>false
theorem b3u{t:TypeId}(hu:b8m E t=true):∃kt et,E.und t=some (.map kt et)∧E.und kt=some (.int .i64)∧E.und et=some .bool∧E.zero et=some [.bool false]:=by
 unfold b8m at hu;split at hu
 case h_2=>cases hu
 rename_i kt et he;simp only[f1d]at hu;obtain⟨h1,h2,h3⟩:=hu;refine⟨kt,et,he,?_,?_,?_⟩
 ·unfold e6n at h1;split at h1
  ·assumption
  ·cases h1
 ·unfold d2h at h2;split at h2
  ·assumption
  ·cases h2
 ·unfold c5v at h3;split at h3
  ·rename_i b hb;cases b
   ·exact hb
   ·cases h3
  ·cases h3
section
variable {ks:List Int}{es:Array MapEntry}{cl:Nat}
theorem USet.key(hs:USet ks es cl){e:MapEntry}(he:e∈es.toList):∃y∈ks,e.key = .int .i64 y:=by have h1:=hs.1.mem_iff.1 (f7b (f:=(·.key)) he);obtain⟨y,hy,h2⟩:=f6q.1 h1;exact⟨y,hy,h2.symm⟩
theorem USet.has(hs:USet ks es cl){x:Int}(hx:x∈ks):∃e∈es.toList,e.key = .int .i64 x:=by have h1:=hs.1.mem_iff.2 (f7b (f:=Value.int .i64) hx);obtain⟨e,he,h2⟩:=f6q.1 h1;exact⟨e,he,h2⟩
theorem b9d{a b:Int}(h:Value.int .i64 a=Value.int .i64 b):a=b:=by cases h;rfl
theorem USet.keys_nodup(hs:USet ks es cl):(es.toList.map (·.key)).Nodup:=by rw[hs.1.nodup_iff];exact List.Pairwise.map _ (λa b cP e=>cP (b9d e)) hs.2.2.1
theorem b5i(x:Int):∀(es:List MapEntry) (i:Nat),(∀e∈es,∃y,e.key = .int .i64 y)->
 (∃j e,es[j]?=some e∧e.key = .int .i64 x∧Instr.findNow (.int .i64) (.int .i64 x) es i=some (some (i+j,e.val)))∨
  ((∀e∈es,e.key≠ .int .i64 x)∧Instr.findNow (.int .i64) (.int .i64 x) es i=some none)
 | [],i,_=>.inr ⟨by simp,rfl⟩
 |e::es,i,h=>by
  obtain⟨y,hy⟩:=h e (by simp);by_cases q9:x=y
  ·subst q9;exact .inl ⟨0,e,rfl,hy,by simp[Instr.findNow,Instr.sameNow,hy]⟩
  ·have e1:Instr.findNow (.int .i64) (.int .i64 x) (e::es) i=Instr.findNow (.int .i64) (.int .i64 x) es (i+1):=by
    have hb:(x==y)=false:=by simpa using q9
    simp[Instr.findNow,Instr.sameNow,hy,hb]
   rcases b5i x es (i+1) (λe he=>h e (by simp[he]))with ⟨j,e',h1,h2,h3⟩|⟨h1,h2⟩
   ·exact .inl ⟨j+1,e',by simpa using h1,h2,by rw[e1,h3,show i+1+j=i+(j+1) by omega]⟩
   ·refine .inr ⟨?_,by rw[e1,h2]⟩;intro e' fJ;rcases f4h.1 fJ with rfl|fJ
    ·rw[hy];exact λe=>q9 (b9d e).symm
    ·exact h1 e' fJ
theorem b8q(ok:EnvOk E){kt:TypeId}(hk:E.und kt=some (.int .i64))(hs:USet ks es cl)(x:Int) :
 (∃j e,es[j]?=some e∧e.key = .int .i64 x∧x∈ks∧(Instr.findKey kt (.int .i64 x) es.toList).run E.P w = .ok (some (j,.bool true)) w)∨
  (x∉ks∧(Instr.findKey kt (.int .i64 x) es.toList).run E.P w = .ok none w):=by
 rcases b5i x es.toList 0 (λe he=>by obtain⟨y,_,h⟩:=hs.key he;exact⟨y,h⟩)with ⟨j,e,h1,h2,h3⟩|⟨h1,h2⟩
 ·refine .inl ⟨j,e,by simpa using h1,h2,?_,?_⟩
  ·obtain⟨y,hy,h4⟩:=hs.key (c11 h1);rw[h2]at h4;rw[b9d h4];exact hy
  ·unfold Instr.findKey;simp only[Sem.run_bind,a0c ok w hk,Result.andThen_ok,h3,f2u,hs.2.1 e (c11 h1),Sem.run_pure]
 ·refine .inr ⟨λhx=>?_,?_⟩
  ·obtain⟨e,he,h3⟩:=hs.has hx;exact h1 e he h3
  ·unfold Instr.findKey;simp only[Sem.run_bind,a0c ok w hk,Result.andThen_ok,h2,Sem.run_pure]
end
def b6r(h:FHeap):AV->Option (List Int)
 |.iset ks=>some ks
 |.map b=>match h b with
  |some (.uset ks)=>some ks
  |_=>none
 |_=>none
theorem c9y(r:HRel E.G I K ρ h w){x:AV}{ks:List Int}{c:Value}(hu:b6r h x=some ks)(hx:VRel I w ρ x c) :
 ∃b es cl,c = .map (some b)∧w.heap[b]?=some (.map es cl)∧USet ks es cl:=by
 unfold b6r at hu;split at hu
 ·cases hu;simp only[VRel]at hx;obtain⟨b,es,cl,rfl,_,he,hs⟩:=hx;exact⟨b,es,cl,rfl,he,hs⟩
 ·rename_i b;split at hu
  case h_2=>cases hu
  rename_i ld hb;cases hu;simp only[VRel]at hx;obtain⟨m,hm,rfl⟩:=hx;obtain⟨m',bl,_,_,es,cl,he,hs⟩:=r.live b _ hb;obtain rfl:m=m':=z9o (hm.symm.trans bl);exact⟨m.blk,es,cl,rfl,he,hs⟩
 ·cases hu
/-! ### lookup -/
def b64(E:Env)(h:FHeap)(t:TypeId)(x k:AV)(ok:Bool):Option AV:=match b6r h x,k with
 |some ks,.int .i64 i=>bif b8m E t then some (bif ok then .tuple [.bool (ks.contains i),.bool (ks.contains i)]else .bool (ks.contains i))else none
 |_,_=>none
theorem d4g(ok:EnvOk E)(r:HRel E.G I K ρ h w){t:TypeId}{x k v:AV}{c ck:Value}{b:Bool}(hv:b64 E h t x k b=some v)(hx:VRel I w ρ x c)(hk:VRel I w ρ k ck) :
 Val E I K ρ h n w (Instr.lookup t c ck b) v .none:=by
 unfold b64 at hv;split at hv
 case h_2=>cases hv
 rename_i ks i hu;rw[cond_eq_ite]at hv;split at hv
 case isFalse=>cases hv
 rename_i ht;obtain⟨kt,et,h1,h2,h3,h4⟩:=b3u ht;obtain⟨bb,es,cl,rfl,he,hs⟩:=c9y r hu hx;simp only[VRel]at hk;subst hk;have aR:=a48 (w:=w) ok (d:=.int .i64) rfl h2 es.isEmpty 9999 (.int .i64 i);have fin:∀q:Bool,(Instr.lookup t (.map (some bb)) (.int .i64 i) b).run E.P w = .ok (if b then .tuple #[.bool q,.bool q]else .bool q) w->ks.contains i=q->Val E I K ρ h n w (Instr.lookup t (.map (some bb)) (.int .i64 i) b) v .none:=by
  intro q ae hq;rw[hq]at hv;refine Val.here r ae ?_;cases b
  ·simp only[f4i,Option.some.injEq]at hv;subst hv;simp[VRel]
  ·simp only[f2v,Option.some.injEq]at hv;subst hv;simp only[f7i,VRel];exact⟨_,rfl,by simp only[VRels];exact⟨_,_,rfl,by simp[VRel],_,_,rfl,by simp[VRel],rfl⟩⟩
 rcases b8q (w:=w) ok h2 hs i with ⟨j,e,g1,g2,g3,g4⟩|⟨g1,g2⟩
 ·refine fin true ?_ (by simpa using g3);simp only[Instr.lookup,Sem.run_bind,a0c ok w h1,Result.andThen_ok,getObj,Sem.run,he,Sem.run_pure,aR,g4]
 ·refine fin false ?_ (by simpa using g1);obtain⟨zv,e9,_,bJ⟩:=a7m ok w h4;have cJ:VRels I w ρ [.bool false] zv.cells.toList:=VRels.noRef_any (bJ I w);rw[(b8k ok h3 h4 e9).2 rfl]at cJ;simp only[VRels]at cJ;obtain⟨c0,qS,tL,h0,_⟩:=cJ;simp only[List.cons.injEq]at tL;rw[<-tL.1]at h0;simp only[VRel]at h0;subst h0;simp only[Instr.lookup,Sem.run_bind,a0c ok w h1,Result.andThen_ok,getObj,Sem.run,he,Sem.run_pure,aR,g2,e9]
/-! ### update -/
def e95(x:Int):List Int->List Int
 | []=>[x]
 |y::l=>bif decide (x<y)then x::y::l else y::e95 x l
theorem c21(x:Int):∀l:List Int,(e95 x l).Perm (x::l)
 | []=>List.Perm.refl _
 |y::l=>by
  simp only[e95,cond_eq_ite];split
  ·exact List.Perm.refl _
  ·exact((c21 x l).cons y).trans (List.Perm.swap ..)
theorem b1u{α:Type}(g:MapEntry->α){es:Array MapEntry}(i:Nat)(f:MapEntry->MapEntry)(hf:∀e,es[i]?=some e->g (f e)=g e):(es.modify i f).toList.map g=es.toList.map g:=by
 apply f4x;intro j;simp only[f1l,f8h,Array.getElem?_modify];split
 ·rename_i hj;subst hj;cases he:es[i]? with
  |none=>simp
  |some e=>simp[hf e he]
 ·rfl
theorem a73{ks:List Int}{es:Array MapEntry}{cl:Nat}:USet ks es cl↔(es.toList.map (·.key)).Perm (ks.map (Value.int .i64))∧(∀v∈es.toList.map (·.val),v = .bool true)∧ks.Nodup∧(es.toList.map (·.born)).Nodup∧∀b∈es.toList.map (·.born),b<cl:=by unfold USet;simp only[f6q,forall_exists_index,and_imp,forall_apply_eq_imp_iff₂]
theorem a6s(r:HRel E.G I K ρ h w){b:Nat}{m:Pl}{o0:AObj}(hb:h b=some o0)(hm:ρ b=some m){es dI:Array MapEntry}{cl ir:Nat}(he:w.heap[m.blk]?=some (.map es cl)){ks:List Int}(hs:USet ks dI ir) :
 Stepped E.G I K ρ w I ρ (h.eff n (.set b (.uset ks))) { w with heap:=w.heap.setIfInBounds m.blk (.map dI ir) }:=by
 have ai:m.blk<w.heap.size:=(f5b.1 he).1;have bL:∀c,c≠m.blk->({ w with heap:=w.heap.setIfInBounds m.blk (.map dI ir) }:World).heap[c]?=w.heap[c]?:=by intro c hc;show(w.heap.setIfInBounds _ _)[c]?=_;rw[f5a,f2m (λh=>hc h.symm)]
 refine a2d r hb hm (by simp) bL rfl rfl rfl ⟨dI,ir,?_,hs⟩;show(w.heap.setIfInBounds _ _)[_]?=_;rw[f5a,f2w rfl,f2w ai]
def b6l(E:Env)(h:FHeap)(t:TypeId)(m k v:AV):Option Eff:=match m,k,v with
 |.map b,.int .i64 i,.bool q=>match h b with
  |some (.uset ks)=>bif b8m E t&&q then some (.set b (.uset (bif ks.contains i then ks else e95 i ks)))else none
  |_=>none
 |_,_,_=>none
theorem c6r(ok:EnvOk E)(r:HRel E.G I K ρ h w){t:TypeId}{m k v:AV}{c ck cv:Value}{e:Eff}(hu:b6l E h t m k v=some e)(hm:VRel I w ρ m c)(hk:VRel I w ρ k ck)(hv:VRel I w ρ v cv) :
 e85 E I K ρ h n w (Instr.mapUpdate t c ck cv) e:=by
 unfold b6l at hu;split at hu
 case h_2=>cases hu
 rename_i b i q;split at hu
 case h_2=>cases hu
 rename_i ks hb;rw[cond_eq_ite]at hu;split at hu
 case isFalse=>cases hu
 rename_i ht;simp only[f1d]at ht;obtain⟨ht,rfl⟩:=ht;cases hu;obtain⟨kt,et,h1,h2,h3,h4⟩:=b3u ht;simp only[VRel]at hm hk hv;subst hk hv;obtain⟨pl,bU,rfl⟩:=hm;obtain⟨m',bl,_,_,es,cl,he,hs⟩:=r.live b _ hb;obtain rfl:pl=m':=z9o (bU.symm.trans bl);have aR:=a48 (w:=w) ok (d:=.int .i64) rfl h2 false 9999 (.int .i64 i);rcases b8q (w:=w) ok h2 hs i with ⟨j,e,g1,g2,g3,g4⟩|⟨g1,g2⟩
 ·have hc:ks.contains i=true:=by simpa using g3
  rw[hc,f2v];obtain⟨s1,s2,s3,s4,s5⟩:=a73.1 hs;have k1:(es.modify j λe=>{ e with key:=.int .i64 i,val:=.bool true }).toList.map (·.key)=es.toList.map (·.key):=b1u _ j _ (λe' fJ=>by rw[g1]at fJ;cases fJ;exact g2.symm);have k2:(es.modify j λe=>{ e with key:=.int .i64 i,val:=.bool true }).toList.map (·.val)=es.toList.map (·.val):=b1u _ j _ (λe' fJ=>(hs.2.1 e' (by simpa using Array.mem_of_getElem? fJ)).symm);have k3:(es.modify j λe=>{ e with key:=.int .i64 i,val:=.bool true }).toList.map (·.born)=es.toList.map (·.born):=b1u _ j _ (λe' fJ=>rfl);refine⟨_,ρ,?_,a6s (dI:=es.modify j λe=>{ e with key:=.int .i64 i,val:=.bool true }) r hb bU he (a73.2 ⟨by rw[k1];exact s1,by rw[k2];exact s2,s3,by rw[k3];exact s4,by rw[k3];exact s5⟩),Moves.same _ _ _⟩;have h5:((es[j]?).map (·.key)).getD (.int .i64 i) = .int .i64 i:=by simp[g1,g2]
  have h6:Instr.sameBits 10000 (.int .i64 i) (.int .i64 i)=true:=by simp[Instr.sameBits]
  simp only[Instr.mapUpdate,Sem.run_bind,a0c ok w h1,Result.andThen_ok,getObj,Sem.run,he,aR,g4,h5,Instr.keyThatStays,h6,f7i,Sem.run_pure,a3v _ he]
 ·have hc:ks.contains i=false:=by simpa using g1
  rw[hc,f4i];obtain⟨s1,s2,s3,s4,s5⟩:=a73.1 hs;have hp:=c21 i ks;refine⟨_,ρ,?_,a6s (dI:=es.push { key:=.int .i64 i,val:=.bool true,born:=cl }) (ir:=cl+1) r hb bU he (a73.2 ⟨?_,?_,?_,?_,?_⟩),Moves.same _ _ _⟩
  ·simp only[Instr.mapUpdate,Sem.run_bind,a0c ok w h1,Result.andThen_ok,getObj,Sem.run,he,aR,g2,a3v _ he]
  ·rw[f8u,f2t];refine(List.perm_append_comm.trans ?_).trans (hp.map _).symm;simpa using s1
  ·intro v hv;rw[f8u,f2t]at hv;rcases f4s.1 hv with h|h
   ·exact s2 v h
   ·simpa using h
  ·rw[hp.nodup_iff,f8j];exact⟨g1,s3⟩
  ·rw[f8u,f2t,List.nodup_append];refine⟨s4,by simp,?_⟩;intro a ha b' a6;have:=s5 a ha;simp only[f1a,f1g,f2x]at a6;omega
  ·intro a ha;rw[f8u,f2t]at ha;rcases f4s.1 ha with h|h
   ·have:=s5 a h;omega
   ·simp only[f1a,f1g,f2x]at h;omega
/-! ### delete -/
theorem b15{α:Type}:∀{l:List α} {j:Nat} {e:α},l[j]?=some e->(e::l.eraseIdx j).Perm l
 | [],j,e,h=>by simp at h
 |a::l,0,e,h=>by simp at h;subst h;exact List.Perm.refl _
 |a::l,j+1,e,h=>by have ih:=b15 (l:=l) (j:=j) (e:=e) (by simpa using h);simp only[List.eraseIdx_cons_succ];exact(List.Perm.swap ..).trans (ih.cons a)
def c9e(E:Env)(h:FHeap)(t:TypeId)(m k:AV):Option Eff:=match m,k with
 |.map b,.int .i64 i=>match h b with
  |some (.uset ks)=>bif b8m E t then some (.set b (.uset (ks.filter λy=>!decide (y=i))))else none
  |_=>none
 |_,_=>none
theorem d8f(ok:EnvOk E)(r:HRel E.G I K ρ h w){t ul:TypeId}{m k:AV}{c ck:Value}{e:Eff}(ty:TypeId)(hu:c9e E h t m k=some e)(hm:VRel I w ρ m c)(hk:VRel I w ρ k ck) :
 Val E I K ρ h n w (Builtin.delete_ #[t,ul] ty #[c,ck]) (.tuple []) e:=by
 unfold c9e at hu;split at hu
 case h_2=>cases hu
 rename_i b i;split at hu
 case h_2=>cases hu
 rename_i ks hb;rw[cond_eq_ite]at hu;split at hu
 case isFalse=>cases hu
 rename_i ht;cases hu;obtain⟨kt,et,h1,h2,h3,h4⟩:=b3u ht;simp only[VRel]at hm hk;subst hk;obtain⟨pl,bU,rfl⟩:=hm;obtain⟨m',bl,_,_,es,cl,he,hs⟩:=r.live b _ hb;obtain rfl:pl=m':=z9o (bU.symm.trans bl);have aR:=a48 (w:=w) ok (d:=.int .i64) rfl h2 es.isEmpty 9999 (.int .i64 i);have l8:∀(w':World) (ρ':PMap),VRel I w' ρ' (.tuple []) (.tuple #[]):=λw' ρ'=>by simp only[VRel];exact⟨#[],rfl,by simp[VRels]⟩
 obtain⟨s1,s2,s3,s4,s5⟩:=a73.1 hs;rcases b8q (w:=w) ok h2 hs i with ⟨j,e,g1,g2,g3,g4⟩|⟨g1,g2⟩
 ·have hj:j<es.toList.length:=by simpa using(f5b.1 g1).1
  have lN:(es.eraseIdxIfInBounds j).toList=es.toList.eraseIdx j:=by unfold Array.eraseIdxIfInBounds;rw[dif_pos (by simpa using hj)];simp
  have fi:(e::es.toList.eraseIdx j).Perm es.toList:=b15 (by simpa using g1);have jq:(i::ks.filter λy=>!decide (y=i)).Perm ks:=by
   refine(List.perm_ext_iff_of_nodup ?_ s3).2 λz=>?_
   ·rw[f8j];exact⟨by simp,s3.filter _⟩
   ·simp only[f4h,f8x,f6z,decide_eq_false_iff_not];constructor
    ·rintro(rfl|h)
     ·exact g3
     ·exact h.1
    ·intro hz;by_cases s9:z=i
     ·exact .inl s9
     ·exact .inr ⟨hz,s9⟩
  refine⟨.tuple #[],_,ρ,?_,a6s (dI:=es.eraseIdxIfInBounds j) (ir:=cl) r hb bU he (a73.2 ⟨?_,?_,?_,?_,?_⟩),l8 _ _,Moves.same _ _ _⟩
  ·have aM:(getObj pl.blk).run E.P w = .ok (.map es cl) w:=by simp[getObj,Sem.run,he]
   have aF:=a3v (E:=E) (.map (es.eraseIdxIfInBounds j) cl) he;simp[Builtin.delete_,a0c ok w h1,aM,aR,g4,aF]
  ·rw[lN];have h5:=(fi.map (·.key)).trans (s1.trans (jq.map (Value.int .i64)).symm);simp only[f1a,g2]at h5;exact h5.cons_inv
  ·intro v hv;rw[lN]at hv;exact s2 v ((fi.map (·.val)).subset (by simp only[f1a];exact f6r _ hv))
  ·exact s3.filter _
  ·rw[lN];have:=(fi.map (·.born)).nodup_iff.2 s4;simp only[f1a,f8j]at this;exact this.2
  ·intro v hv;rw[lN]at hv;exact s5 v ((fi.map (·.born)).subset (by simp only[f1a];exact f6r _ hv))
 ·have hf:(ks.filter λy=>!decide (y=i))=ks:=List.filter_eq_self.2 λy hy=>by simp;rintro rfl;exact g1 hy
  rw[hf];refine⟨.tuple #[],_,ρ,?_,a6s (dI:=es) (ir:=cl) r hb bU he hs,l8 _ _,Moves.same _ _ _⟩;have aM:(getObj pl.blk).run E.P w = .ok (.map es cl) w:=by simp[getObj,Sem.run,he]
  have aF:=a3v (E:=E) (.map es cl) he;simp[Builtin.delete_,a0c ok w h1,aM,aR,g2,aF]
end
end Go.Ax
/- AxSet2: ranging over a set of numbers. -/
namespace Go.Ax
section
variable {E:Env}{I K:Nat->Prop}{ρ:PMap}{h:FHeap}{n:Nat}{w:World}
def c5u:Option TypeDesc->Bool
 |some (.map _ _)=>true
 |_=>false
theorem b7n{d:Option TypeDesc}(h:c5u d=true):∃kt et,d=some (.map kt et):=by
 unfold c5u at h;split at h
 ·exact⟨_,_,rfl⟩
 ·cases h
def c04(E:Env)(n:Nat)(t:TypeId)(x:AV):Option (AV×Eff):=match x with
 |.iset ks=>bif c5u (E.und t)then some (.ptr n 0 0,.new (.miter ks [] none))else none
 |.nilmap=>bif c5u (E.und t)then some (.ptr n 0 0,.new (.miter [] [] none))else none
 |_=>none
theorem c99(ok:EnvOk E)(r:HRel E.G I K ρ h w)(hn:h n=none)(hρ:ρ n=none){t:TypeId}{x v:AV}{c:Value}{e:Eff}(ha:c04 E n t x=some (v,e))(hx:VRel I w ρ x c) :
 Val E I K ρ h n w (Instr.range t c) v e:=by
 unfold c04 at ha;split at ha
 ·rename_i ks;rw[cond_eq_ite]at ha;split at ha
  case isFalse=>cases ha
  rename_i hu;cases ha;obtain⟨kt,et,hu⟩:=b7n hu;simp only[VRel]at hx;obtain⟨b,es,cl,rfl,hI,he,hs⟩:=hx;have ai:b<w.heap.size:=(f5b.1 he).1;refine⟨.pointer (some ⟨w.heap.size,0,none⟩),{ w with heap:=w.heap.push (.mapIter (some b) cl #[] cl) },ρ.set n ⟨w.heap.size,0,0,0⟩,?_,?_,?_,Moves.set _ _ _ rfl⟩
  ·simp[Instr.range,a0c ok w hu,getObj,Sem.run,he,newObj]
  ·refine a2q (ob:=.mapIter (some b) cl #[] cl) r hn hρ rfl rfl rfl rfl rfl ?_;refine⟨rfl,.inr ⟨b,es,cl,#[],hI,?_,hs,by simp,[],by simp,by simp,by simp⟩⟩;show(w.heap.push _)[b]?=_;rw[f9c,f2m (by omega)];exact he
  ·simp only[VRel];exact⟨_,by simp[PMap.set];rfl,by simp⟩
 ·rw[cond_eq_ite]at ha;split at ha
  case isFalse=>cases ha
  rename_i hu;cases ha;obtain⟨kt,et,hu⟩:=b7n hu;simp only[VRel]at hx;subst hx;refine⟨.pointer (some ⟨w.heap.size,0,none⟩),{ w with heap:=w.heap.push (.mapIter none 0 #[] 0) },ρ.set n ⟨w.heap.size,0,0,0⟩,?_,?_,?_,Moves.set _ _ _ rfl⟩
  ·simp[Instr.range,a0c ok w hu,newObj,Sem.run]
  ·exact a2q (ob:=.mapIter none 0 #[] 0) r hn hρ rfl rfl rfl rfl rfl ⟨rfl,.inl ⟨rfl,rfl,by simp⟩⟩
  ·simp only[VRel];exact⟨_,by simp[PMap.set];rfl,by simp⟩
 ·cases ha
def b2c(h:FHeap)(it:AV):Option AV:=match it with
 |.ptr b 0 0=>match h b with
  |some (.miter _ dC _)=>match dC.getLast? with
   |some i=>some (.tuple [.int .i64 i,.bool true])
   |none=>none
  |_=>none
 |_=>none
theorem c9d(r:HRel E.G I K ρ h w){it v:AV}{c:Value}(ha:b2c h it=some v)(hx:VRel I w ρ it c):Val E I K ρ h n w (Instr.entry c) v .none:=by
 unfold b2c at ha;split at ha
 case h_2=>cases ha
 rename_i b;split at ha
 case h_2=>cases ha
 rename_i ks dC dK hb;split at ha
 case h_2=>cases ha
 rename_i i hi;cases ha;simp only[VRel]at hx;obtain⟨m,hm,rfl⟩:=hx;obtain⟨m',bl,_,_,h0,ho⟩:=r.live b _ hb;obtain rfl:m=m':=z9o (hm.symm.trans bl);rcases ho with ⟨_,h2,_⟩|⟨c,es,cl,seen,hI,he,hs,mw,dI,g1,g2,g3⟩
 ·rw[h2]at hi;cases hi
 ·have hl:(dI.map (·.key)).getLast?=some (.int .i64 i):=by rw[g3,List.getLast?_map,hi];rfl
  rw[List.getLast?_map]at hl;cases bf:dI.getLast? with
  |none=>rw[bf]at hl;cases hl
  |some e=>
   rw[bf]at hl;simp only[f2k,Option.some.injEq]at hl;have pQ:=g1 e (List.mem_of_getLast? bf);have cN:seen.back?=some e.born:=by rw[<-Array.getLast?_toList,<-g2,List.getLast?_map,bf];rfl
   have pN:es.find? (λx=>x.born==e.born)=some e:=by
    rw[<-Array.find?_toList];have bn:=hs.2.2.2.1;have:∀l:List MapEntry,(l.map (·.born)).Nodup->e∈l->l.find? (λx=>x.born==e.born)=some e:=by
     intro l
     induction l with
     |nil=>intro _ h;cases h
     |cons a l ih=>
      intro hn hm;simp only[f1a,f8j]at hn;rcases f4h.1 hm with rfl|hm
      ·simp
      ·have aw:(a.born==e.born)=false:=by
        rw[f6o];intro h;exact hn.1 (h▸f7b (f:=(·.born)) hm)
       rw[List.find?_cons,aw];exact ih hn.2 hm
    exact this _ bn pQ
   refine Val.here (c:=.tuple #[.int .i64 i,.bool true]) r ?_ ?_
   ·simp[Instr.entry,h0,getObj,Sem.run,mw,he,cN,pN,hl,hs.2.1 e pQ]
   ·simp only[VRel];exact⟨_,rfl,by simp only[VRels];exact⟨_,_,rfl,by simp[VRel],_,_,rfl,by simp[VRel],rfl⟩⟩
theorem c4l(k:Nat)(hk:0<k):∃i d,i<k∧(choose (.mapNext k)).run E.P w = .ok i { w with drawn:=d }:=by
 simp only[choose,Sem.run];by_cases h:(Question.mapNext k).forced=true
 ·rw[f2w h];exact⟨0,w.drawn,hk,rfl⟩
 ·rw[f2m h];exact⟨_,w.drawn+1,Nat.mod_lt _ hk,rfl⟩
theorem c6p{es:List MapEntry}{α:Type}(f:MapEntry->α)(hn:(es.map f).Nodup){a b:MapEntry}(ha:a∈es)(hb:b∈es)(h:f a=f b):a=b:=by
 induction es with
 |nil=>cases ha
 |cons x l ih=>
  simp only[f1a,f8j]at hn;rcases f4h.1 ha with rfl|ha
  ·rcases f4h.1 hb with rfl|hb
   ·rfl
   ·exact absurd (h▸f7b (f:=f) hb) hn.1
  ·rcases f4h.1 hb with rfl|hb
   ·exact absurd (show f b∈l.map f from h▸f7b (f:=f) (by assumption)) hn.1
   ·exact ih hn.2 ha hb
theorem d6g(r:HRel E.G I K ρ h w){b:Nat}{m:Pl}{ks dC:List Int}{dK:Option (Option Int)}(hb:h b=some (.miter ks dC dK))(hm:ρ b=some m)(ty:TypeId) :
 (∃i,i∈ks∧i∉dC∧∃w',(Instr.next (.pointer (some ⟨m.blk,0,none⟩)) false ty).run E.P w = .ok (.tuple #[.bool true,.int .i64 i,.bool true]) w'∧Stepped E.G I K ρ w I ρ (h.eff n (.set b (.miter ks (dC++[i]) none))) w')∨
  ((∀i∈ks,i∈dC)∧∃w',(Instr.next (.pointer (some ⟨m.blk,0,none⟩)) false ty).run E.P w = .ok (.tuple #[.bool false]) w'∧Stepped E.G I K ρ w I ρ (h.eff n (.set b (.miter ks dC none))) w'):=by
 obtain⟨m',bl,dY,_,h0,ho⟩:=r.live b _ hb;obtain rfl:m=m':=z9o (hm.symm.trans bl);rcases ho with ⟨h1,h2,h3⟩|⟨c,es,cl,seen,hI,he,hs,mw,dI,g1,g2,g3⟩
 ·subst h1 h2;exact .inr ⟨by simp,w,by simp[Instr.next,getObj,Sem.run,h3],a2d r hb hm rfl (λ_ _=>rfl) rfl rfl rfl ⟨h0,.inl ⟨rfl,rfl,h3⟩⟩⟩
 ·have mC:(getObj m.blk).run E.P w = .ok (.mapIter (some c) cl seen cl) w:=by simp[getObj,Sem.run,mw]
  have mB:(getObj c).run E.P w = .ok (.map es cl) w:=by simp[getObj,Sem.run,he]
  have kC:∀e∈es,e.born<cl:=λe he=>hs.2.2.2.2 e (by simpa using he);have gZ:(!seen.isEmpty && !es.isEmpty&&es.all (λe=>decide (e.born≥cl)))=false:=by
   rw[Bool.and_eq_false_iff];by_cases pQ:es.isEmpty=true
   ·left;simp[pQ]
   ·right;have aw:es≠ #[]:=by simpa using pQ
    rw[<-Bool.not_eq_true,Array.all_eq_true_iff_forall_mem];intro aW;obtain⟨e,jJ⟩:=Array.exists_mem_of_ne_empty es aw;have:=aW e jJ;have:=kC e jJ;simp only[f2y]at *;omega
  obtain⟨left,km⟩:∃left,left=es.filter (λe=>!seen.contains e.born):=⟨_,rfl⟩
  have dN:∀e,e∈left↔e∈es∧e.born∉seen:=by intro e;rw[km,Array.mem_filter];simp
  have aG:left.filter (λe=>decide (e.born<cl))=left:=by rw[Array.filter_eq_self];intro e hm;simpa using kC e ((dN e).1 hm).1
  have aX:left.filter (λe=>decide (e.born≥cl)) = #[]:=by rw[Array.filter_eq_empty_iff];intro e hm;have:=kC e ((dN e).1 hm).1;simp;omega
  have mg:∀e∈es,∀i,e.key = .int .i64 i->(e.born∈seen↔i∈dC):=by
   intro e jJ i hi;have rC:=hs.2.2.2.1;have lC:=hs.keys_nodup;have lN:e∈es.toList:=by simpa using jJ
   constructor
   ·intro h;have h1:e.born∈dI.map (·.born):=by rw[g2];simpa using h
    obtain⟨e',fJ,h2⟩:=f6q.1 h1;have:=c6p (·.born) rC (g1 e' fJ) lN h2;subst this;have h3:=f7b (f:=(·.key)) fJ;rw[g3,hi]at h3;obtain⟨j,hj,h4⟩:=f6q.1 h3;rw[b9d h4]at hj;exact hj
   ·intro h;have h1:Value.int .i64 i∈dI.map (·.key):=by rw[g3];exact f7b h
    obtain⟨e',fJ,h2⟩:=f6q.1 h1;have:=c6p (·.key) lC (g1 e' fJ) lN (h2.trans hi.symm);subst this;have h3:=f7b (f:=(·.born)) fJ;rw[g2]at h3;simpa using h3
  by_cases hl:left.isEmpty=true
  ·refine .inr ⟨λi hi=>?_,w,?_,a2d r hb hm rfl (λ_ _=>rfl) rfl rfl rfl ⟨h0,.inr ⟨c,es,cl,seen,hI,he,hs,mw,dI,g1,g2,g3⟩⟩⟩
   ·obtain⟨e,jJ,hk⟩:=hs.has hi;have jJ:e∈es:=by simpa using jJ
    refine(mg e jJ i hk).1 (Decidable.byContradiction λhn=>?_);have:=(dN e).2 ⟨jJ,hn⟩;have h0:left = #[]:=by simpa using hl
    rw[h0]at this;simp at this
   ·have h0:left = #[]:=by simpa using hl
    simp only[Instr.next,Sem.run_bind,mC,Result.andThen_ok,mB,gZ,<-km,aG,aX];simp[h0,choose,Sem.run,Question.forced]
  ·have iI:0<left.size:=by
    rcases Nat.eq_zero_or_pos left.size with h|h
    ·exact absurd (by simpa using Array.eq_empty_of_size_eq_zero h) hl
    ·exact h
   obtain⟨ix,d,uU,ve⟩:=c4l (E:=E) (w:=w) left.size iI;obtain⟨e,jJ⟩:∃e,left[ix]?=some e:=⟨_,Array.getElem?_eq_getElem uU⟩
   obtain⟨lO,oo⟩:=(dN e).1 (Array.mem_of_getElem? jJ);obtain⟨i,hi,hk⟩:=hs.key (e:=e) (by simpa using lO);have cD:=hs.2.1 e (by simpa using lO);have fy:m.blk<w.heap.size:=(f5b.1 mw).1;have bZ:c≠m.blk:=λe=>dY (e▸hI);refine .inl ⟨i,hi,λhv=>oo ((mg e lO i hk).2 hv),{ w with heap:=w.heap.setIfInBounds m.blk (.mapIter (some c) cl (seen.push e.born) cl),drawn:=d },?_,?_⟩
   ·have aF:(setObj m.blk (.mapIter (some c) cl (seen.push e.born) cl)).run E.P { w with drawn:=d } = .ok () { w with heap:=w.heap.setIfInBounds m.blk (.mapIter (some c) cl (seen.push e.born) cl),drawn:=d }:=by
     simp[setObj,Sem.run,mw]
    have qA:left.isEmpty=false:=by simpa using hl
    simp only[Instr.next,Sem.run_bind,mC,Result.andThen_ok,mB,gZ,<-km,aG,aX,qA,f6t,f9d,Array.empty_append,Array.append_empty,Array.size_map,ve,Array.getElem?_map,jJ,f2k,aF,Sem.run_pure,hk,cD]
   ·refine a2d r hb hm (by simp) ?_ rfl rfl rfl ⟨h0,.inr ⟨c,es,cl,seen.push e.born,hI,?_,hs,?_,dI++[e],?_,?_,?_⟩⟩
    ·intro x hx;show(w.heap.setIfInBounds _ _)[x]?=_;rw[f5a,f2m (λh=>hx h.symm)]
    ·show(w.heap.setIfInBounds _ _)[c]?=_;rw[f5a,f2m (λh=>bZ h.symm)];exact he
    ·show(w.heap.setIfInBounds _ _)[_]?=_;rw[f5a,f2w rfl,f2w fy]
    ·intro x hx;rcases f4s.1 hx with h|h
     ·exact g1 x h
     ·simp only[f2x]at h;subst h;simpa using lO
    ·rw[f2t,g2,f8u];rfl
    ·rw[f2t,g3,f2t];simp[hk]
end
end Go.Ax
/- AxStr: ranging over a string. -/
namespace Go.Ax
section
variable {E:Env}{I K:Nat->Prop}{ρ:PMap}{h:FHeap}{n:Nat}{w:World}
def c6u(E:Env)(n:Nat)(t:TypeId)(x:AV):Option (AV×Eff):=
 match E.und t,x with
 |some .string,.str s=>some (.ptr n 0 0,.new (.siter s 0))
 |_,_=>none
theorem d48(ok:EnvOk E)(r:HRel E.G I K ρ h w)(hn:h n=none)(hρ:ρ n=none){t:TypeId}{x v:AV}{c:Value}{e:Eff}(ha:c6u E n t x=some (v,e))(hx:VRel I w ρ x c) :
 Val E I K ρ h n w (Instr.range t c) v e:=by
 unfold c6u at ha;split at ha
 case h_2=>cases ha
 rename_i s hu;cases ha;simp only[VRel]at hx;obtain⟨tb,rfl,ht⟩:=hx;refine⟨.pointer (some ⟨w.heap.size,0,none⟩),{ w with heap:=w.heap.push (.stringIter tb 0) },ρ.set n ⟨w.heap.size,0,0,0⟩,?_,?_,?_,Moves.set _ _ _ rfl⟩
 ·simp[Instr.range,a0c ok w hu]
 ·refine a2q (ob:=.stringIter tb 0) r hn hρ rfl rfl rfl rfl rfl ?_;exact⟨rfl,tb,by simp,ht⟩
 ·simp only[VRel];exact⟨_,by simp[PMap.set];rfl,by simp⟩
def c2u(h:FHeap)(it:AV)(jS:Bool):Option (AV×Eff):=
 match it with
 |.ptr b 0 0=>bif jS then match h b with
  |some (.siter s pos)=>bif Nat.blt pos s.length then
   some (.tuple [.bool true,.int .i64 pos,.int .i32 (Utf8.decode ⟨s.toArray⟩ pos).1],.set b (.siter s (pos+(Utf8.decode ⟨s.toArray⟩ pos).2)))
   else some (.tuple [.bool false],.none)
  |_=>none
  else none
 |_=>none
theorem d8c(r:HRel E.G I K ρ h w){it v:AV}{b:Bool}{c:Value}{e:Eff}(ty:TypeId)(ha:c2u h it b=some (v,e))(hx:VRel I w ρ it c) :
 Val E I K ρ h n w (Instr.next c b ty) v e:=by
 unfold c2u at ha;split at ha
 case h_2=>cases ha
 rename_i bb;rw[cond_eq_ite]at ha;split at ha
 case isFalse=>cases ha
 rename_i hs;subst hs;split at ha
 case h_2=>cases ha
 rename_i s pos hb;simp only[VRel]at hx;obtain⟨m,hm,rfl⟩:=hx;obtain⟨m',bl,dY,_,h0,tb,he,ht⟩:=r.live bb _ hb;obtain rfl:m=m':=z9o (hm.symm.trans bl);have mf:tb=⟨s.toArray⟩:=by cases tb;simp only[ByteArray.mk.injEq]at ht⊢;apply f9b;simpa using ht
 have cj:tb.size=s.length:=by rw[mf];simp[ByteArray.size]
 have aM:(getObj m.blk).run E.P w = .ok (.stringIter tb pos) w:=by simp[getObj,Sem.run,he]
 rw[cond_eq_ite]at ha;split at ha
 ·rename_i ai;simp only[f4o]at ai;cases ha;have fy:m.blk<w.heap.size:=(f5b.1 he).1;refine⟨.tuple #[.bool true,goInt pos,.int .i32 (Utf8.decode tb pos).1],{ w with heap:=w.heap.setIfInBounds m.blk (.stringIter tb (pos+(Utf8.decode tb pos).2)) },ρ,?_,?_,?_,Moves.same _ _ _⟩
  ·have aF:(setObj m.blk (.stringIter tb (pos+(Utf8.decode tb pos).2))).run E.P w = .ok () { w with heap:=w.heap.setIfInBounds m.blk (.stringIter tb (pos+(Utf8.decode tb pos).2)) }:=by
    simp[setObj,Sem.run,he]
   simp only[Instr.next,h0,Nat.zero_mul,f8z,Sem.run_bind,aM,Result.andThen_ok];simp[cj,ai,aF]
  ·refine a2d r hb hm (by simp) ?_ rfl rfl rfl ?_
   ·intro c hc;show(w.heap.setIfInBounds _ _)[c]?=_;rw[f5a,f2m (λh=>hc h.symm)]
   ·refine⟨h0,tb,?_,ht⟩;show(w.heap.setIfInBounds _ _)[_]?=_;rw[f5a,f2w rfl,f2w fy,mf]
  ·simp only[VRel];exact⟨_,rfl,by simp only[VRels];exact⟨_,_,rfl,by simp[VRel],_,_,rfl,by simp[VRel,goInt],_,_,rfl,by simp[VRel,mf],rfl⟩⟩
 ·rename_i ai;cases ha;have ai:¬pos<s.length:=by simpa[f4o]using ai
  refine Val.here (c:=.tuple #[.bool false]) r ?_ ?_
  ·simp only[Instr.next,h0,Nat.zero_mul,f8z,Sem.run_bind,aM,Result.andThen_ok];simp[cj,ai]
  ·simp only[VRel];exact⟨_,rfl,by simp only[VRels];exact⟨_,_,rfl,by simp[VRel],rfl⟩⟩
end
end Go.Ax
/- AxAppZ: append of so many zero elements to nil (slices.Grow). -/
namespace Go.Ax
section
variable {E:Env}{I K:Nat->Prop}{ρ:PMap}{h:FHeap}{n:Nat}{w:World}
def a39(E:Env)(n:Nat)(st xt:TypeId)(s x:AV):Option (AV×Eff):=match s,x with
 |.nilslice,.int _ l=>match E.und st,E.und xt with
  |some (.slice ac),some dx=>bif a34 dx&&decide (0<=l)then match E.zero ac with
   |some z=>bif Nat.blt 0 (E.sz ac)then(match l.toNat with
    |0=>some (.nilslice,.none)
    |m+1=>bif a2j E ac (m+1)then some (.slice n 0 (m+1) none,.new (.row (E.sz ac) (List.replicate (m+1) z)))else none)else none
   |none=>none
   else none
  |_,_=>none
 |_,_=>none
theorem c4u{st xt:TypeId}{s x:AV}{r:AV×Eff}(h:a39 E n st xt s x=some r)(n':Nat)(hp:FHeap):a52 E hp n' st xt s x=none:=by
 unfold a39 at h;split at h
 case h_2=>cases h
 split at h
 case h_2=>cases h
 rename_i ac dx hu fB;rw[cond_eq_ite]at h;split at h
 case isFalse=>cases h
 rename_i hc;simp only[f1d]at hc;unfold a52;simp only[hu,fB,hc.1,Bool.true_or,f2v]
theorem c4t(ok:EnvOk E)(r:HRel E.G I K ρ h w)(hn:h n=none)(hρ:ρ n=none){st xt:TypeId}{s x v:AV}{e:Eff}{cs cx:Value}(ty:TypeId)
 (ha:a39 E n st xt s x=some (v,e))(hs:VRel I w ρ s cs)(hx:VRel I w ρ x cx):Val E I K ρ h n w (Builtin.append_ #[st,xt] ty #[cs,cx]) v e:=by
 unfold a39 at ha;split at ha
 case h_2=>cases ha
 rename_i k l;split at ha
 case h_2=>cases ha
 rename_i ac dx hu fB;rw[cond_eq_ite]at ha;split at ha
 case isFalse=>cases ha
 rename_i hc;simp only[f1d,f2y]at hc;obtain⟨lH,fG⟩:=hc;split at ha
 case h_2=>cases ha
 rename_i z hz;rw[cond_eq_ite]at ha;split at ha
 case isFalse=>cases ha
 rename_i cj;have cj:0<E.sz ac:=by simpa[f4o]using cj
 obtain⟨⟨de,bu⟩,i',z',jw,d8,lh,lg⟩:=ok.zero ac z hz;have gF:∀w',(zeroValue ac).run E.P w' = .ok z' w':=by intro w';simp[zeroValue,typeInfo,jw,d8]
 have eI:z'.cells.toList.length=E.sz ac:=by rw[<-lh,VRels.length (lg (λ_=>False) w)]
 obtain⟨i,hi,_,jD⟩:=b39 ok w bu;have gU:∀w',(typeInfo ac).run E.P w' = .ok i w':=by intro w';have:=hi;simp[typeInfo,jw]at this⊢;exact this
 obtain⟨ki,rfl⟩:∃ki,dx = .int ki:=by cases dx<;>simp[a34]at lH;exact⟨_,rfl⟩
 simp only[VRel]at hs hx;subst hs;subst hx;have qx:∀w',(underlying xt).run E.P w' = .ok (.int ki) w':=λw'=>a0c ok w' fB;have tg:∀w',(underlying st).run E.P w' = .ok (.slice ac) w':=λw'=>a0c ok w' hu;have aT:∀w',(sizeOf ac).run E.P w' = .ok (E.sz ac) w':=λw'=>a3a ok w' bu;obtain⟨m0,rfl⟩:∃m0:Nat,l=m0:=⟨l.toNat,by omega⟩
 rw[Int.toNat_natCast]at ha;have lH:∀(q:Nat) w',(asInt (.int k (q:Int))).run E.P w' = .ok (q:Int) w':=λq w'=>rfl;cases m0 with
 |zero=>
  cases ha;refine Val.here (c:=.slice none 0 0) r ?_ (by simp[VRel]);have cA:IntKind.i64.wrap ((0:Nat):Int)=0:=by rfl
  unfold Builtin.append_;simp only[f7f,f4z,f4r,Sem.run_bind,tg,Result.andThen_ok,aT,qx,Sem.run_pure,f7i,lH,cA];simp[gU]
 |succ m=>
  dsimp only at ha;rw[cond_eq_ite]at ha;split at ha
  case isFalse=>cases ha
  rename_i bc;cases ha;have rk:=bc;simp only[a2j,f1d,f2y]at bc;have uu:IntKind.i64.wrap ((m+1:Nat):Int)=((m+1:Nat):Int):=b1g (by omega) (by omega);have aY:=a8r (a9m:=m+1) (old:=0) (by omega);have sQ:¬(Builtin.nextslicecap (m+1) 0*i.bytes>2^48):=by rw[jD];have:Builtin.nextslicecap (m+1) 0*E.bytes ac<=(2*(m+1)+192)*E.bytes ac:=f7j _ aY;rw[Nat.mul_comm (2*(m+1)+192)]at this;omega
  have uL:(m+1)*E.bytes ac<=281474976710656:=by have:E.bytes ac*(m+1)<=E.bytes ac*(2*(m+1)+192):=Nat.mul_le_mul_left _ (by omega);rw[Nat.mul_comm];omega
  have sP:¬(((m+1:Nat):Int)*(i.bytes:Int)>2^48):=by
   rw[jD];have:((m+1:Nat):Int)*(E.bytes ac:Int)=(((m+1)*E.bytes ac:Nat):Int):=by simp
   rw[this];omega
  have rB:¬(((m+1:Nat):Int)<0):=by omega
  have lD:¬(((m+1:Nat):Int)>IntKind.i64.max):=by simp only[IntKind.max,IntKind.signed,IntKind.bits];simp;omega
  have bf:¬(m+1<=0):=by omega
  have fk:¬((m+1)*E.sz ac=0):=Nat.mul_ne_zero (by omega) (by omega);generalize hcap2:m+1+(w.tape w.drawn (.appendCap (m+1) 0 ac))%(2^63-(m+1))=bi;have aG:∀w',(Builtin.firstCells (E.sz ac) 0 (.slice none 0 0)).run E.P w' = .ok #[] w':=λw'=>rfl;have ae:(Builtin.append_ #[st,xt] ty #[.slice none 0 0,.int k ((m+1:Nat):Int)]).run E.P w =
   .ok (.slice (some ⟨w.heap.size,0,none⟩) (m+1) bi) { w with drawn:=w.drawn+1,heap:=w.heap.push (.cells (Builtin.zeroCells z'.cells (m+1)++Builtin.zeroCells z'.cells (bi-(m+1))) ac) }:=by
   unfold Builtin.append_;simp only[f7f,f4z,f4r,Sem.run_bind,tg,Result.andThen_ok,aT,qx,Sem.run_pure,f7i,lH,uu,rB,f9d,gU,sP];have lw:((m+1:Nat):Int).toNat=m+1:=rfl;simp only[lw,f2u,bf,f9d,Sem.run_bind,gU,Result.andThen_ok,lD,false_and,sQ,run_choose,run_askRoom,Question.forced,Question.cut,aG,f8t,f6t,fk,gF,a4h,Sem.run_pure];rw[hcap2];simp
  have mG:m+1<=bi:=by omega
  have qv:∀q:Nat,(Builtin.zeroCells z'.cells q).size=q*E.sz ac:=by
   intro q;rw[<-f4p,a5h]
   induction q with
   |zero=>simp
   |succ q ih=>rw[f8i,f7a,f2n,ih,eI,g0h,Nat.add_comm]
  generalize bN:Builtin.zeroCells z'.cells (m+1)++Builtin.zeroCells z'.cells (bi-(m+1))=cells at ae;have kA:cells.size=bi*E.sz ac:=by
   subst bN;rw[Array.size_append,qv,qv,<-f8g]
   congr 1;omega
  have tc:∀c,I c->({ w with drawn:=w.drawn+1,heap:=w.heap.push (.cells cells ac) }:World).heap[c]?=w.heap[c]?:=by intro c hc;have:=r.imm c hc;show(w.heap.push _)[c]?=_;rw[f9c,f2m (by omega)]
  have gP:({ w with drawn:=w.drawn+1,heap:=w.heap.push (.cells cells ac) }:World).heap[w.heap.size]?=some (.cells cells ac (0,0)):=by show(w.heap.push _)[_]?=_;simp
  have aF:=PMap.set_old (m:=⟨w.heap.size,0,E.sz ac,cells.size⟩) hρ;have fe:∀x∈List.replicate (m+1) z,x.length=E.sz ac:=λx hx=>by rw[f4t hx];exact lh
  have ho:ORel E.G I { w with drawn:=w.drawn+1,heap:=w.heap.push (.cells cells ac) } (ρ.set n ⟨w.heap.size,0,E.sz ac,cells.size⟩) ⟨w.heap.size,0,E.sz ac,cells.size⟩ (.row (E.sz ac) (List.replicate (m+1) z)):=by
   refine⟨rfl,cj,⟨cells,ac,gP,rfl,?_⟩,?_⟩
   ·show 0+(List.replicate (m+1) z).length*E.sz ac<=cells.size;rw[f9i,kA,f2u];exact f7j _ mG
   ·rw[VRows.iff];refine⟨fe,?_⟩;refine VAt.of_cells (cs:=(Builtin.zeroCells z'.cells (m+1)).toList) (CellsAt.of_heap gP (λj v hj=>?_)) ?_
    ·subst bN;have mu:=(f1i.1 hj).1;simp only[f4p]at mu;rw[f2u,Array.getElem?_append_left mu,<-f8h];exact hj
    ·rw[a5h];exact VRels.flatten_replicate (VRels.noRef_any (lg I _)) _
  refine⟨_,_,ρ.set n ⟨w.heap.size,0,E.sz ac,cells.size⟩,ae,?_,?_,Moves.set _ _ _ rfl⟩
  ·exact a2q (ob:=.cells cells ac) r hn hρ rfl rfl rfl rfl rfl ho
  ·simp only[VRel];refine⟨_,bi,rfl,mG,(λq hq=>by cases hq),.inr ⟨_,by simp[PMap.set];rfl,by simp,?_⟩⟩;show 0+(0+bi)*E.sz ac<=cells.size;rw[kA,f2u,f2u];exact f2q _
end
end Go.Ax
/- AxAop: one operation that calls no function of the program, on abstract values; that the model does just that. -/
namespace Go.Ax
set_option maxHeartbeats 200000000
section
variable {E:Env}{I K:Nat->Prop}{ρ:PMap}{h:FHeap}{n:Nat}{w:World}
def b6m(t:Bool)(a b:AV):AV:=
 match a,b with
 |.bool x,.bool y=>.bool (bif t then x else y)
 |a,b=>bif t then a else b
theorem d8a{t:Bool}{a b:AV}{ca cb:Value}(ha:VRel I w ρ a ca)(hb:VRel I w ρ b cb):VRel I w ρ (b6m t a b) (if t then ca else cb):=by
 unfold b6m;split
 ·simp only[VRel]at ha hb;subst ha hb;cases t<;>simp[VRel]
 ·cases t<;>simpa
def a60:List (List AV)->Option (List UInt8)
 | []=>some []
 | [.int .u8 n]::r=>match a60 r with|some l=>some (UInt8.ofNat n.toNat::l)|none=>none
 |_::_=>none
def a7i(E:Env)(h:FHeap)(kO dst:TypeId)(x:AV):Option AV:=
 match E.und kO,E.und dst,x with
 |some (.slice _),some .string,.str _=>none
 |some (.slice e),some .string,x=>match E.und e with
  |some (.int .u8)=>match a2h h 1 x with
   |some aa=>match a60 aa with
    |some l=>some (.str l)
    |none=>none
   |none=>none
  |_=>none
 |_,_,x=>d8i E kO dst x
theorem b8g:∀{aa:List (List AV)} {l:List UInt8} {cv:List Value} (aP:ByteArray),a60 aa=some l->VRels I w ρ aa.flatten cv->
 ∃s:ByteArray,(∀qX:String,(forIn cv aP (λc s=>match c with
  |.int .u8 n=>pure (ForInStep.yield (s.push (UInt8.ofNat n.toNat)))
  |_=>do
   stuck qX
   pure (ForInStep.yield s):Value->ByteArray->Sem (ForInStep ByteArray))).run E.P w = .ok s w)∧s.data.toList=aP.data.toList++l
 | [],l,cv,aP,ha,hv=>by simp only[a60,Option.some.injEq]at ha;subst ha;simp only[List.flatten_nil,VRels]at hv;subst hv;exact⟨aP,λ_=>by simp,by simp⟩
 |r::aa,l,cv,aP,ha,hv=>by
  unfold a60 at ha;split at ha
  ·rename_i h;cases h
  ·rename_i n r' he;cases he;split at ha
   case h_2=>cases ha
   rename_i l' hl;cases ha;simp only[f7a,f2o,f1e,VRels]at hv;obtain⟨c,cs,rfl,hc,cL⟩:=hv;simp only[VRel]at hc;subst hc;obtain⟨s,h1,h2⟩:=b8g (aP.push (UInt8.ofNat n.toNat)) hl cL;refine⟨s,λqX=>?_,?_⟩
   ·rw[List.forIn_cons];simp only[Sem.run_bind,Sem.run_pure,Result.andThen_ok];exact h1 qX
   ·rw[h2];simp
  ·cases ha
theorem d4n(ok:EnvOk E)(r:HRel E.G I K ρ h w){kO dst:TypeId}{x v:AV}{c:Value}(hv:a7i E h kO dst x=some v)(hx:VRel I w ρ x c) :
 ∃d,(convert kO dst c).run E.P w = .ok d w∧VRel I w ρ v d:=by
 unfold a7i at hv;split at hv
 ·cases hv
 ·rename_i y e hs hd kf;split at hv
  case h_2=>cases hv
  rename_i he;split at hv
  case h_2=>cases hv
  rename_i aa hr;split at hv
  case h_2=>cases hv
  rename_i l hl;cases hv;obtain⟨ak,⟨cv,ae,bJ⟩,hk⟩:=a5d r hr hx;obtain⟨s,h1,h2⟩:=b8g (E:=E) (w:=w) .empty hl bJ;have gJ:=ae w ⟨rfl,rfl,rfl,rfl⟩;refine⟨.string s,?_,by simp only[VRel];exact⟨s,rfl,by simpa using h2⟩⟩;unfold a2h at hr;split at hr
  ·simp only[VRel]at hx;subst hx;cases hr;simp only[a60,Option.some.injEq]at hl;subst hl;have:s = .empty:=by
    cases s;simp only[f1b]at h2;have:=Array.toList_inj.1 h2;subst this;rfl
   subst this;simp[convert,a0c ok w hs,a0c ok w hd,a0c ok w he,Conv.bytesToString]
  ·simp only[VRel]at hx;obtain⟨a,cc,k,rfl,_⟩:=hx;rw[cond_eq_ite]at hr;split at hr
   case isFalse=>cases hr
   cases hr;simp only[Builtin.firstCells,Nat.mul_one]at gJ;simp only[convert,Sem.run_bind,a0c ok w hs,a0c ok w hd,a0c ok w he,Result.andThen_ok,Conv.bytesToString,gJ];rw[<-Array.forIn_toList];exact(congrArg (λr=>r.andThen (λa w'=>(pure (Value.string a):Sem Value).run E.P w')) (h1 _)).trans rfl
  ·simp only[VRel]at hx;obtain⟨a,cc,rfl,_⟩:=hx;simp only[Builtin.lenOf,Sem.run_pure,Result.ok.injEq,f8s]at ak;rw[<-ak]at gJ;simp only[Builtin.firstCells,Nat.mul_one]at gJ;simp only[convert,Sem.run_bind,a0c ok w hs,a0c ok w hd,a0c ok w he,Result.andThen_ok,Conv.bytesToString,gJ];rw[<-Array.forIn_toList];exact(congrArg (λr=>r.andThen (λa w'=>(pure (Value.string a):Sem Value).run E.P w')) (h1 _)).trans rfl
  ·exact absurd rfl (kf _)
  ·cases hr
 ·exact d8h ok hv hx
def b4o(E:Env)(t:TypeId):AObj:=bif b8m E t then .uset []else .map [] [] [] 0
theorem c1f(r:HRel E.G I K ρ h w)(hn:h n=none)(hρ:ρ n=none){t:TypeId}{s:Sem Value}
 (hs:s.run E.P w = .ok (.map (some w.heap.size)) { w with heap:=w.heap.push (.map #[] 0) }):Val E I K ρ h n w s (.map n) (.new (b4o E t)):=by
 unfold b4o;cases b8m E t with
 |false=>exact e38 r hn hρ hs
 |true=>refine⟨_,_,ρ.set n ⟨w.heap.size,0,0,0⟩,hs,?_,by simp only[VRel];exact⟨_,by simp[PMap.set];rfl,rfl⟩,Moves.set _ _ _ rfl⟩;refine a2q (ob:=.map #[] 0) r hn hρ rfl rfl rfl rfl rfl ?_;exact⟨#[],0,by simp,by simp,by simp,by simp,by simp,by simp⟩
def d8l(E:Env)(n:Nat)(h:FHeap)(b:Builtin)(ts:List TypeId)(args:List AV):Option (AV×Eff):=
 match b,ts,args with
 |.len,[t],[x]=>(c07 E h t x).map (·,.none)
 |.cap,[t],[x]=>(e3g E t x).map (·,.none)
 |.append,[st,xt],[s,x]=>oor (a52 E h n st xt s x) (a39 E n st xt s x)
 |.copy,[dt,_],[d,x]=>c9f E h dt d x
 |.clear,[t],[x]=>b8f E h t x
 |.delete,[t,_],[m,k]=>(c9e E h t m k).map (.tuple [],·)
 |.min,_,x::xs=>(d9t x xs).map (·,.none)
 |.max,_,x::xs=>(d50 x xs).map (·,.none)
 |_,_,_=>none
def aop(E:Env)(n:Nat)(h:FHeap)(op:Op)(v:Operand->AV):Option (AV×Eff):=
 match op with
 |.move x=>some (v x,.none)
 |.assign x=>some (v x,.none)
 |.pick c a b=>match v c with
  |.bool t=>some (b6m t (v a) (v b),.none)
  |_=>none
 |.alloc t=>e37 E n t
 |.box _ x=>e3j n (v x)
 |.build t ps=>(b8i E t (ps.toList.map λp=>(p.1,v p.2))).map (·,.none)
 |.buildSlice t len ps=>a3u E n t len (ps.toList.map λp=>(p.1,v p.2))
 |.load t a=>(a6q E h t (v a)).map (·,.none)
 |.store t a x=>(a89 E h t (v a) (v x)).map (.tuple [],·)
 |.nilCheck x=>match v x with
  |.ptr b i o=>some (.ptr b i o,.none)
  |.iptr cs=>some (.iptr cs,.none)
  |.func (.func f) fs cs=>some (.func (.func f) fs cs,.none)
  |_=>none
 |.binOp op t x y _=>(b2d E op t (v x) (v y) (a4y x||a4y y)).map (·,.none)
 |.unOp op _ x=>(aun op (v x)).map (·,.none)
 |.convert s d x=>(a7i E h s d (v x)).map (·,.none)
 |.makeInterface t x=>match E.und t with
  |some (.interface _)=>none
  |some _=>some (.iface t (v x),.none)
  |none=>none
 |.makeFunc fn first cap=>some (.func fn (first.toList.map v) (cap.toList.map v),.none)
 |.makeMap t r=>match r with
  |none=>some (.map n,.new (b4o E t))
  |some x=>match E.und t,v x with
   |some (.map _ _),.int _ _=>some (.map n,.new (b4o E t))
   |_,_=>none
 |.makeSlice t l c=>a4l E n t (v l) (v c)
 |.slice t x lo hi mx=>(a5z E h t (v x) (lo.map v) (hi.map v) (mx.map v)).map (·,.none)
 |.fieldAddr s x f=>(a6a E s (v x) f).map (·,.none)
 |.field t x f=>(b8e E t (v x) f).map (·,.none)
 |.indexAddr t x ix=>(a15 E h t (v x) (v ix)).map (·,.none)
 |.index t x ix=>(b8d E t (v x) (v ix)).map (·,.none)
 |.lookup t x k ok=>(oor (a5e E h t (v x) (v k) ok) (b64 E h t (v x) (v k) ok)).map (·,.none)
 |.mapUpdate t m k x=>(oor (a21 E h t (v m) (v k) (v x)) (b6l E h t (v m) (v k) (v x))).map (.tuple [],·)
 |.insert t m k x=>(oor (a21 E h t (v m) (v k) (v x)) (b6l E h t (v m) (v k) (v x))).map (.tuple [],·)
 |.mapEntry t m k=>b1d E h t (v m) (v k)
 |.entryStore _ m s x=>(a5f h (v m) (v s) (v x)).map (.tuple [],·)
 |.extract t i=>match v t with
  |.tuple vs=>match vs[i]? with
   |some x=>some (x,.none)
   |none=>none
  |_=>none
 |.range t x=>oor (c6u E n t (v x)) (c04 E n t (v x))
 |.next it b=>c2u h (v it) b
 |.entry it=>(b2c h (v it)).map (·,.none)
 |.call { callee:=.builtin b,args,argTypes }=>d8l E n h b argTypes.toList (args.toList.map v)
 |_=>none
def OpOk(E:Env)(I K:Nat->Prop)(ρ:PMap)(h:FHeap)(n:Nat)(a:Act)(w:World)(o:Oper)(v:AV)(e:Eff):Prop:=∃x w' c ρ',(execOp a.eval o).run E.P w = .ok x w'∧(x = .value c∨(x = .skip∧c=undef))∧Stepped E.G I K ρ w I ρ' (h.eff n e) w'∧VRel I w' ρ' v c∧Moves ρ ρ' n e
theorem OpOk.val{a:Act}{o:Oper}{v:AV}{e:Eff}{s:Sem Value}(hs:execOp a.eval o=(do pure (.value (<-s))))(hv:Val E I K ρ h n w s v e):OpOk E I K ρ h n a w o v e:=by obtain⟨c,w',ρ',h1,h2,h3,h4⟩:=hv;exact⟨.value c,w',c,ρ',by rw[hs];simp[h1],.inl rfl,h2,h3,h4⟩
theorem OpOk.done{a:Act}{o:Oper}{e:Eff}{s:Sem Unit}(hs:execOp a.eval o=(do s;pure .skip))(hv:e85 E I K ρ h n w s e):OpOk E I K ρ h n a w o (.tuple []) e:=by obtain⟨w',ρ',h1,h2,h4⟩:=hv;exact⟨.skip,w',undef,ρ',by rw[hs];simp[h1],.inr ⟨rfl,rfl⟩,h2,by simp only[VRel,undef];exact⟨#[],rfl,by simp[VRels]⟩,h4⟩
theorem a08{α β:Type}{x:Option α}{f:α->β}{y:β}(h:x.map f=some y):∃a,x=some a∧f a=y:=by
 cases x with
 |none=>cases h
 |some a=>simp only[f2k,Option.some.injEq]at h;exact⟨a,rfl,h⟩
theorem a5m{a:Act}{v:Operand->AV}(hv:∀x,VRel I w ρ (v x) (a.eval x)):∀l:List Operand,VRels I w ρ (l.map v) (l.map a.eval)
 | []=>by simp[VRels]
 |x::l=>by simp only[f1a,VRels];exact⟨_,_,rfl,hv x,a5m hv l⟩
theorem b4g{a:Act}{v:Operand->AV}(hv:∀x,VRel I w ρ (v x) (a.eval x)):∀l:List (Nat×Operand),a64 I w ρ (l.map λp=>(p.1,v p.2)) (l.map λp=>(p.1,a.eval p.2))
 | []=>by simp[a64]
 |x::l=>by simp only[f1a,a64];exact⟨_,_,rfl,hv x.2,b4g hv l⟩
theorem b1r{a:Act}{v:Operand->AV}(hv:∀x,VRel I w ρ (v x) (a.eval x))(x:Option Operand):a37 I w ρ (x.map v) (x.map a.eval):=by
 cases x with
 |none=>simp[a37]
 |some x=>simp only[f2k,a37];exact⟨_,rfl,hv x⟩
theorem e3k(ok:EnvOk E)(r:HRel E.G I K ρ h w)(hn:h n=none)(hρ:ρ n=none){b:Builtin}{ts:List TypeId}{args:List AV}{an:List Value}{v:AV}{e:Eff}(ty:TypeId)(qR:Array Bool)
 (ha:d8l E n h b ts args=some (v,e))(hv:VRels I w ρ args an):∃s:Sem Value,builtin b ts.toArray ty qR an.toArray=(do pure (.value (<-s)))∧Val E I K ρ h n w s v e:=by
 unfold d8l at ha;split at ha
 ·simp only[VRels]at hv;obtain⟨c,_,rfl,hx,rfl⟩:=hv;obtain⟨a,h1,h2⟩:=a08 ha;cases h2;exact⟨_,rfl,e39 ok r ty h1 hx⟩
 ·simp only[VRels]at hv;obtain⟨c,_,rfl,hx,rfl⟩:=hv;obtain⟨a,h1,h2⟩:=a08 ha;cases h2;exact⟨_,rfl,e3f ok r ty h1 hx⟩
 ·simp only[VRels]at hv;obtain⟨c,_,rfl,hx,c2,_,rfl,hy,rfl⟩:=hv;refine⟨_,rfl,?_⟩;rcases b0b ha with ha|ha
  ·exact c9i ok r hn hρ ty ha hx hy
  ·exact c4t ok r hn hρ ty ha hx hy
 ·simp only[VRels]at hv;obtain⟨c,_,rfl,hx,c2,_,rfl,hy,rfl⟩:=hv;exact⟨_,rfl,d8g ok r ty ha hx hy⟩
 ·simp only[VRels]at hv;obtain⟨c,_,rfl,hx,rfl⟩:=hv;exact⟨_,rfl,d4o ok r ty ha hx⟩
 ·simp only[VRels]at hv;obtain⟨c,_,rfl,hx,c2,_,rfl,hy,rfl⟩:=hv;obtain⟨a,h1,h2⟩:=a08 ha;cases h2;exact⟨_,rfl,d8f ok r ty h1 hx hy⟩
 ·simp only[VRels]at hv;obtain⟨c,cs,rfl,hx,cg⟩:=hv;obtain⟨a,h1,h2⟩:=a08 ha;cases h2;obtain⟨d,h3,h4⟩:=d4d (E:=E) (w:=w) h1 hx cg;exact⟨_,rfl,Val.here r (by simpa[Builtin.min_]using h3) h4⟩
 ·simp only[VRels]at hv;obtain⟨c,cs,rfl,hx,cg⟩:=hv;obtain⟨a,h1,h2⟩:=a08 ha;cases h2;obtain⟨d,h3,h4⟩:=d4e (E:=E) (w:=w) h1 hx cg;exact⟨_,rfl,Val.here r (by simpa[Builtin.max_]using h3) h4⟩
 ·cases ha
theorem d9s(ok:EnvOk E)(r:HRel E.G I K ρ h w)(hn:h n=none)(hρ:ρ n=none){a:Act}{o:Oper}{v:Operand->AV}{x:AV}{e:Eff}(ha:aop E n h o.op v=some (x,e))
 (hv:∀x,VRel I w ρ (v x) (a.eval x)):OpOk E I K ρ h n a w o x e:=by
 obtain⟨dst,op,type,pos,after,guard⟩:=o;simp only at ha;unfold aop at ha;split at ha
 ·cases ha;exact⟨_,w,_,ρ,rfl,.inl rfl,Stepped.refl r,hv _,Moves.same _ _ _⟩
 ·cases ha;exact⟨_,w,_,ρ,rfl,.inl rfl,Stepped.refl r,hv _,Moves.same _ _ _⟩
 ·rename_i c p q;split at ha
  case h_2=>cases ha
  rename_i t hc;cases ha;have aZ:=hv c;rw[hc]at aZ;simp only[VRel]at aZ;refine⟨.value (if t then a.eval p else a.eval q),w,_,ρ,?_,.inl rfl,Stepped.refl r,d8a (hv p) (hv q),Moves.same _ _ _⟩;simp[execOp,aZ,asBool]
 ·exact OpOk.val rfl (e36 ok r hn hρ ha _)
 ·exact OpOk.val rfl (e3i r hn hρ ha (hv _))
 ·obtain⟨y,h1,h2⟩:=a08 ha;cases h2;rename_i t ps;have:=d4p (n:=n) ok r h1 (b4g hv ps.toList);refine OpOk.val (s:=Instr.build t (ps.toList.map λp=>(p.1,a.eval p.2)).toArray) ?_ this;show(do pure (Next.value (<-Instr.build t (ps.map λ(i,x)=>(i,a.eval x)))))=_
  congr 2
  apply f9b;simp
 ·rename_i t len ps;have:=b6o (n:=n) ok r hn hρ ha (b4g hv ps.toList);refine OpOk.val (s:=Instr.buildSlice t len (ps.toList.map λp=>(p.1,a.eval p.2)).toArray) ?_ this;show(do pure (Next.value (<-Instr.buildSlice t len (ps.map λ(i,x)=>(i,a.eval x)))))=_
  congr 2
  apply f9b;simp
 ·obtain⟨y,h1,h2⟩:=a08 ha;cases h2;exact OpOk.val rfl (d8d ok r h1 (hv _))
 ·obtain⟨y,h1,h2⟩:=a08 ha;cases h2;exact OpOk.done rfl (d44 ok r h1 (hv _) (hv _))
 ·rename_i y;have hy:=hv y;split at ha
  ·rename_i b i o hq;cases ha;rw[hq]at hy;have jU:=hy;simp only[VRel]at jU;obtain⟨m,hm,hc⟩:=jU;exact⟨.value (a.eval y),w,_,ρ,by simp[execOp,hc],.inl rfl,Stepped.refl r,hy,Moves.same _ _ _⟩
  ·rename_i cs hq;cases ha;rw[hq]at hy;have jU:=hy;simp only[VRel]at jU;obtain⟨b,off,hc,_⟩:=jU;exact⟨.value (a.eval y),w,_,ρ,by simp[execOp,hc],.inl rfl,Stepped.refl r,hy,Moves.same _ _ _⟩
  ·rename_i f fs cs hq;cases ha;rw[hq]at hy;have jU:=hy;simp only[VRel]at jU;obtain⟨dj,aO,hc,_⟩:=jU;exact⟨.value (a.eval y),w,_,ρ,by simp[execOp,hc],.inl rfl,Stepped.refl r,hy,Moves.same _ _ _⟩
  ·cases ha
 ·obtain⟨y,h1,h2⟩:=a08 ha;cases h2;obtain⟨c,h3,h4⟩:=e3l (E:=E) (w:=w) ok h1 (hv _) (hv _);exact OpOk.val rfl (Val.here r h3 h4)
 ·obtain⟨y,h1,h2⟩:=a08 ha;cases h2;obtain⟨c,h3,h4⟩:=e7o (E:=E) (w:=w) h1 (hv _);exact OpOk.val rfl (Val.here r h3 h4)
 ·obtain⟨y,h1,h2⟩:=a08 ha;cases h2;obtain⟨c,h3,h4⟩:=d4n ok r h1 (hv _);exact OpOk.val rfl (Val.here r h3 h4)
 ·rename_i t y;split at ha
  ·cases ha
  ·rename_i d aw hd;cases ha;refine OpOk.val (s:=Instr.makeInterface t (a.eval y)) rfl (Val.here (c:=.iface t (a.eval y)) r ?_ (by simp only[VRel];exact⟨_,rfl,hv y⟩));simp only[Instr.makeInterface,Sem.run_bind,a0c ok w hd,Result.andThen_ok];cases d<;>first|rfl|(exact absurd rfl (aw _))
  ·cases ha
 ·rename_i fn first cap
  cases ha;refine OpOk.val (s:=Instr.makeFunc fn (first.map a.eval) (cap.map a.eval)) rfl (Val.here r rfl ?_);simp only[VRel];exact⟨_,_,rfl,by rw[f8q];exact a5m hv _,by rw[f8q];exact a5m hv _⟩
 ·rename_i t rr;split at ha
  ·cases ha;exact OpOk.val (s:=Instr.makeMap t none) rfl (c1f r hn hρ (by simp[Instr.makeMap]))
  ·rename_i y;split at ha
   case h_2=>cases ha
   rename_i hd hy;cases ha;have q6:=hv y;rw[hy]at q6;simp only[VRel]at q6;refine OpOk.val (s:=Instr.makeMap t (some (a.eval y))) rfl (c1f r hn hρ ?_);simp[Instr.makeMap,a0c ok w hd,q6,asInt,asIntOf]
 ·exact OpOk.val rfl (c05 ok r hn hρ ha (hv _) (hv _))
 ·obtain⟨y,h1,h2⟩:=a08 ha;cases h2;exact OpOk.val rfl (d45 ok r h1 (hv _) (b1r hv _) (b1r hv _) (b1r hv _))
 ·obtain⟨y,h1,h2⟩:=a08 ha;cases h2;exact OpOk.val rfl (c09 ok r h1 (hv _))
 ·obtain⟨y,h1,h2⟩:=a08 ha;cases h2;exact OpOk.val rfl (d4j ok r h1 (hv _))
 ·obtain⟨y,h1,h2⟩:=a08 ha;cases h2;exact OpOk.val rfl (c08 ok r h1 (hv _) (hv _))
 ·obtain⟨y,h1,h2⟩:=a08 ha;cases h2;exact OpOk.val rfl (d4i ok r h1 (hv _) (hv _))
 ·obtain⟨y,h1,h2⟩:=a08 ha;cases h2;rcases b0b h1 with h1|h1
  ·exact OpOk.val rfl (c9a ok r h1 (hv _) (hv _))
  ·exact OpOk.val rfl (d4g ok r h1 (hv _) (hv _))
 ·obtain⟨y,h1,h2⟩:=a08 ha;cases h2;rcases b0b h1 with h1|h1
  ·exact OpOk.done rfl (b1c ok r h1 (hv _) (hv _) (hv _))
  ·exact OpOk.done rfl (c6r ok r h1 (hv _) (hv _) (hv _))
 ·obtain⟨y,h1,h2⟩:=a08 ha;cases h2;rcases b0b h1 with h1|h1
  ·exact OpOk.done rfl (b1c ok r h1 (hv _) (hv _) (hv _))
  ·exact OpOk.done rfl (c6r ok r h1 (hv _) (hv _) (hv _))
 ·exact OpOk.val rfl (c2w ok r ha (hv _) (hv _))
 ·obtain⟨y,h1,h2⟩:=a08 ha;cases h2;exact OpOk.done rfl (b6n r h1 (hv _) (hv _) (hv _))
 ·rename_i t i;split at ha
  case h_2=>cases ha
  rename_i vs ht;split at ha
  case h_2=>cases ha
  rename_i y hy;cases ha;have n8:=hv t;rw[ht]at n8;simp only[VRel]at n8;obtain⟨cs,hc,cL⟩:=n8;obtain⟨c,cW,hr⟩:=VRels.get i cL hy;refine OpOk.val (s:=Instr.extract (a.eval t) i) rfl (Val.here (c:=c) r ?_ hr);have:cs[i]?=some c:=by simpa using cW
  simp[Instr.extract,hc,this]
 ·rcases b0b ha with ha|ha
  ·exact OpOk.val rfl (d48 ok r hn hρ ha (hv _))
  ·exact OpOk.val rfl (c99 ok r hn hρ ha (hv _))
 ·exact OpOk.val rfl (d8c r type ha (hv _))
 ·obtain⟨y,h1,h2⟩:=a08 ha;cases h2;exact OpOk.val rfl (c9d r h1 (hv _))
 ·rename_i b args ts;obtain⟨s,hs,cD⟩:=e3k (E:=E) ok r hn hρ type (args.map λ|.const _=>true|_=>false) ha (a5m hv args.toList);refine OpOk.val ?_ cD;have ht:ts.toList.toArray=ts:=by apply f9b;simp
  rw[ht]at hs;rw[<-hs];have hm:(args.toList.map a.eval).toArray=args.map a.eval:=by apply f9b;simp
  rw[hm];rfl
 ·cases ha
end
end Go.Ax
/- AxRen: block numbers that are renamed; what is frozen. -/
namespace Go.Ax
section
variable {G:GTab (List AV)}{I K:Nat->Prop}{ρ ρ':PMap}{h h':FHeap}{w:World}
theorem HRel.rename(r:HRel G I K ρ h w){π:Nat->Option Nat}(hπ:∀b b' m,π b=some b'->ρ b=some m->ρ' b'=some m)
 (hh:∀b' o',h' b'=some o'->∃b o,h b=some o∧π b=some b'∧o'=a0g π o)(nA:∀b' m,ρ' b'=some m->m.blk<w.heap.size):HRel G I K ρ' h' w:={
 live b' o' a6:=by obtain⟨b,o,hb,hp,rfl⟩:=hh b' o' a6;obtain⟨m,h1,h2,h3,h4⟩:=r.live b o hb;exact⟨m,hπ b b' m hp h1,h2,h3,ORel.ren hπ o h4⟩
 inj b1 b2 m1 m2 h1 h2 db cF he:=by obtain⟨o1,eE⟩:=f1j.1 h1;obtain⟨o2,uJ⟩:=f1j.1 h2;obtain⟨c1,q1,dc,dw,_⟩:=hh b1 o1 eE;obtain⟨c2,q2,eg,cB,_⟩:=hh b2 o2 uJ;obtain⟨n1,cC,_⟩:=r.live c1 q1 dc;obtain⟨n2,jv,_⟩:=r.live c2 q2 eg;have e1:=hπ c1 b1 n1 dw cC;have e2:=hπ c2 b2 n2 cB jv;rw[db]at e1;rw[cF]at e2;cases e1;cases e2;have:=r.inj c1 c2 _ _ (by simp[dc]) (by simp[eg]) cC jv he;subst this;rw[dw]at cB;exact z9o cB
 dom:=nA
 imm:=r.imm
 kept:=r.kept
 apart:=r.apart
 glob:=r.glob}
theorem Ext.keepLess{K':Nat->Prop}{w w':World}(e:Ext I K w w')(hK:∀c,K' c->K c):Ext I K' w w':=⟨e.os,e.tape,e.output,e.size,λc hc=>e.keep c (hc.imp id (hK c))⟩
/-! ### freezing -/
def d34(m:Nat)(top:Bool)(d:AV->Option AV)(b:Nat)(v:AV):Option AV:=bif Nat.blt b m then(bif top then some v else none)else d v
mutual
def a36(m:Nat)(top:Bool)(d:AV->Option AV):AV->Option AV
 |.ptr b i o=>d34 m top d b (.ptr b i o)
 |.slice b off len cap=>d34 m top d b (.slice b off len cap)
 |.map b=>d34 m top d b (.map b)
 |.yfn b=>bif top&&Nat.blt b m then some (.yfn b)else none
 |.func fn fs cs=>match a5r m top d fs,a5r m top d cs with
  |some fs,some cs=>some (.func fn fs cs)
  |_,_=>none
 |.iface t x=>match a36 m top d x with
  |some x=>some (.iface t x)
  |none=>none
 |.agg cs=>match a5r m top d cs with
  |some cs=>some (.agg cs)
  |none=>none
 |.tuple cs=>match a5r m top d cs with
  |some cs=>some (.tuple cs)
  |none=>none
 |.iptr cs=>some (.iptr cs)
 |.islice aa cap=>some (.islice aa cap)
 |.imap ks vs bs br=>some (.imap ks vs bs br)
 |.iset ks=>some (.iset ks)
 |.junk=>some .junk
 |.bool b=>some (.bool b)
 |.int k n=>some (.int k n)
 |.str s=>some (.str s)
 |.nilptr=>some .nilptr
 |.nilslice=>some .nilslice
 |.nilmap=>some .nilmap
 |.nilfunc=>some .nilfunc
 |.nilifc=>some .nilifc
def a5r(m:Nat)(top:Bool)(d:AV->Option AV):List AV->Option (List AV)
 | []=>some []
 |v::vs=>match a36 m top d v,a5r m top d vs with
  |some v,some vs=>some (v::vs)
  |_,_=>none
end
def a9t(m:Nat)(d:AV->Option AV):List (List AV)->Option (List (List AV))
 | []=>some []
 |r::rs=>match a5r m false d r,a9t m d rs with
  |some r,some rs=>some (r::rs)
  |_,_=>none
def a3k(h:FHeap)(m:Nat):Nat->AV->Option AV
 |0,_=>none
 |n+1,.ptr b i o=>match h b with
  |some (.row _ aa)=>match aa[i]? with
   |some r=>match a5r m false (a3k h m n) (r.drop o)with
    |some cs=>some (.iptr cs)
    |none=>none
   |none=>none
  |_=>none
 |n+1,.slice b off len cap=>match h b with
  |some (.row _ aa)=>bif Nat.ble (off+len) aa.length then
   match a9t m (a3k h m n) ((aa.drop off).take len)with
   |some rs=>some (.islice rs cap)
   |none=>none
   else none
  |_=>none
 |n+1,.map b=>match h b with
  |some (.map ks vs bs cl)=>match a5r m false (a3k h m n) ks,a5r m false (a3k h m n) vs with
   |some ks,some vs=>some (.imap ks vs bs cl)
   |_,_=>none
  |some (.uset ks)=>some (.iset ks)
  |_=>none
 |_+1,_=>none
def a41(I:Nat->Prop)(ρ:PMap)(h:FHeap)(m:Nat):Nat->Prop:=λc=>I c∨∃b o p,m<=b∧h b=some o∧ρ b=some p∧p.blk=c
def c4v(I':Nat->Prop)(I:Nat->Prop)(w:World)(ρ:PMap)(m:Nat)(d:AV->Option AV):Prop:=∀b v v' c,(v = .map b∨(∃i o,v = .ptr b i o)∨∃off len cap,v = .slice b off len cap)->m<=b->d v=some v'->VRel I w ρ v c->VRel I' w noP v' c
def PMap.below(ρ:PMap)(m:Nat)(top:Bool):PMap:=λb=>if top=true∧b<m then ρ b else none
theorem a7r{I I':Nat->Prop}{w:World}{ρ:PMap}(_:∀c,I c->I' c){v:AV}{c:Value}(h:VRel I' w noP v c):VRel I' w ρ v c:=VRel.mono (λ_ h=>h) (λ_ _=>rfl) v (λ_ _ h=>by simp[noP]at h) h
variable {I':Nat->Prop}{m:Nat}{top:Bool}{d:AV->Option AV}
mutual
theorem b1y(hI:∀c,I c->I' c)(hd:c4v I' I w ρ m d):∀(v:AV) {v':AV} {c:Value},a36 m top d v=some v'->VRel I w ρ v c->VRel I' w (ρ.below m top) v' c
 |.ptr b i o,v',c,hf,hv=>by
  simp only[a36,d34]at hf;rw[cond_eq_ite]at hf;split at hf
  ·rename_i hb;rw[cond_eq_ite]at hf;split at hf
   case isFalse=>cases hf
   rename_i ht;cases hf;simp only[VRel]at hv⊢;obtain⟨p,hp,rfl⟩:=hv;exact⟨p,by simp only[PMap.below];rw[f2w ⟨ht,by simpa[f4o]using hb⟩];exact hp,rfl⟩
  ·rename_i hb;exact a7r (I:=I) hI (hd b _ _ _ (.inr (.inl ⟨i,o,rfl⟩)) (by simpa[f4o]using hb) hf hv)
 |.slice b off len cap,v',c,hf,hv=>by
  simp only[a36,d34]at hf;rw[cond_eq_ite]at hf;split at hf
  ·rename_i hb;rw[cond_eq_ite]at hf;split at hf
   case isFalse=>cases hf
   rename_i ht;cases hf;simp only[VRel]at hv⊢;obtain⟨a,cc,rfl,h1,h2,h3⟩:=hv;refine⟨a,cc,rfl,h1,h2,h3.imp id ?_⟩
   rintro⟨p,hp,rfl,hr⟩
   exact⟨p,by simp only[PMap.below];rw[f2w ⟨ht,by simpa[f4o]using hb⟩];exact hp,rfl,hr⟩
  ·rename_i hb;exact a7r (I:=I) hI (hd b _ _ _ (.inr (.inr ⟨off,len,cap,rfl⟩)) (by simpa[f4o]using hb) hf hv)
 |.map b,v',c,hf,hv=>by
  simp only[a36,d34]at hf;rw[cond_eq_ite]at hf;split at hf
  ·rename_i hb;rw[cond_eq_ite]at hf;split at hf
   case isFalse=>cases hf
   rename_i ht;cases hf;simp only[VRel]at hv⊢;obtain⟨p,hp,rfl⟩:=hv;exact⟨p,by simp only[PMap.below];rw[f2w ⟨ht,by simpa[f4o]using hb⟩];exact hp,rfl⟩
  ·rename_i hb;exact a7r (I:=I) hI (hd b _ _ _ (.inl rfl) (by simpa[f4o]using hb) hf hv)
 |.yfn b,v',c,hf,hv=>by
  simp only[a36]at hf;rw[cond_eq_ite]at hf;split at hf
  case isFalse=>cases hf
  rename_i hb;cases hf;simp only[f1d,f4o]at hb;simp only[VRel]at hv⊢;obtain⟨p,hp,rfl⟩:=hv;exact⟨p,by simp only[PMap.below];rw[f2w hb];exact hp,rfl⟩
 |.func fn fs cs,v',c,hf,hv=>by
  simp only[a36]at hf;split at hf
  case h_2=>cases hf
  rename_i dj aO h1 h2;cases hf;simp only[VRel]at hv⊢;obtain⟨a,b,rfl,h3,h4⟩:=hv;exact⟨a,b,rfl,a8x hI hd fs h1 h3,a8x hI hd cs h2 h4⟩
 |.iface t x,v',c,hf,hv=>by
  simp only[a36]at hf;split at hf
  case h_2=>cases hf
  rename_i x' h1;cases hf;simp only[VRel]at hv⊢;obtain⟨a,rfl,h3⟩:=hv;exact⟨a,rfl,b1y hI hd x h1 h3⟩
 |.agg cs,v',c,hf,hv=>by
  simp only[a36]at hf;split at hf
  case h_2=>cases hf
  rename_i aO h1;cases hf;simp only[VRel]at hv⊢;obtain⟨a,rfl,h3⟩:=hv;exact⟨a,rfl,a8x hI hd cs h1 h3⟩
 |.tuple cs,v',c,hf,hv=>by
  simp only[a36]at hf;split at hf
  case h_2=>cases hf
  rename_i aO h1;cases hf;simp only[VRel]at hv⊢;obtain⟨a,rfl,h3⟩:=hv;exact⟨a,rfl,a8x hI hd cs h1 h3⟩
 |.iptr cs,v',c,hf,hv=>by simp only[a36,Option.some.injEq]at hf;subst hf;exact a7r (I:=I) hI (VRel.mono (ρ:=noP) (ρ':=noP) hI (λ_ _=>rfl) _ (λ_ _ h=>h) (by simpa only[VRel]using hv))
 |.islice aa cap,v',c,hf,hv=>by simp only[a36,Option.some.injEq]at hf;subst hf;exact a7r (I:=I) hI (VRel.mono (ρ:=noP) (ρ':=noP) hI (λ_ _=>rfl) _ (λ_ _ h=>h) (by simpa only[VRel]using hv))
 |.imap ks vs bs br,v',c,hf,hv=>by simp only[a36,Option.some.injEq]at hf;subst hf;exact a7r (I:=I) hI (VRel.mono (ρ:=noP) (ρ':=noP) hI (λ_ _=>rfl) _ (λ_ _ h=>h) (by simpa only[VRel]using hv))
 |.iset ks,v',c,hf,hv=>by simp only[a36,Option.some.injEq]at hf;subst hf;exact a7r (I:=I) hI (VRel.mono (ρ:=noP) (ρ':=noP) hI (λ_ _=>rfl) _ (λ_ _ h=>h) (by simpa only[VRel]using hv))
 |.junk,v',c,hf,hv=>by simp only[a36,Option.some.injEq]at hf;subst hf;simp[VRel]
 |.bool b,v',c,hf,hv=>by simp only[a36,Option.some.injEq]at hf;subst hf;simpa[VRel]using hv
 |.int k n,v',c,hf,hv=>by simp only[a36,Option.some.injEq]at hf;subst hf;simpa[VRel]using hv
 |.str s,v',c,hf,hv=>by simp only[a36,Option.some.injEq]at hf;subst hf;simpa[VRel]using hv
 |.nilptr,v',c,hf,hv=>by simp only[a36,Option.some.injEq]at hf;subst hf;simpa[VRel]using hv
 |.nilslice,v',c,hf,hv=>by simp only[a36,Option.some.injEq]at hf;subst hf;simpa[VRel]using hv
 |.nilmap,v',c,hf,hv=>by simp only[a36,Option.some.injEq]at hf;subst hf;simpa[VRel]using hv
 |.nilfunc,v',c,hf,hv=>by simp only[a36,Option.some.injEq]at hf;subst hf;simpa[VRel]using hv
 |.nilifc,v',c,hf,hv=>by simp only[a36,Option.some.injEq]at hf;subst hf;simpa[VRel]using hv
theorem a8x(hI:∀c,I c->I' c)(hd:c4v I' I w ρ m d):∀(vs:List AV) {eX:List AV} {cs:List Value},a5r m top d vs=some eX->VRels I w ρ vs cs->VRels I' w (ρ.below m top) eX cs
 | [],eX,cs,hf,hv=>by simp only[a5r,Option.some.injEq]at hf;subst hf;simpa[VRels]using hv
 |v::vs,eX,cs,hf,hv=>by
  simp only[a5r]at hf;split at hf
  case h_2=>cases hf
  rename_i v1 mR h1 h2;cases hf;simp only[VRels]at hv⊢;obtain⟨c,aO,rfl,h3,h4⟩:=hv;exact⟨c,aO,rfl,b1y hI hd v h1 h3,a8x hI hd vs h2 h4⟩
end
theorem a7z(ρ:PMap)(m:Nat):ρ.below m false=noP:=by funext b;simp[PMap.below,noP]
theorem c4a(hI:∀c,I c->I' c)(hd:c4v I' I w ρ m d):∀(vs:List AV) {eX:List AV} {b off:Nat},a5r m false d vs=some eX->VAt I w ρ vs b off->VAt I' w noP eX b off
 | [],eX,b,off,hf,_=>by simp only[a5r,Option.some.injEq]at hf;subst hf;simp[VAt]
 |v::vs,eX,b,off,hf,hv=>by
  simp only[a5r]at hf;split at hf
  case h_2=>cases hf
  rename_i v1 mR h1 h2;cases hf;simp only[VAt]at hv⊢;obtain⟨⟨c,hc,h3⟩,h4⟩:=hv;have:=b1y hI hd v h1 h3;rw[a7z]at this;exact⟨⟨c,hc,this⟩,c4a hI hd vs h2 h4⟩
theorem b0h{m:Nat}{top:Bool}{d:AV->Option AV}:∀{vs eX:List AV},a5r m top d vs=some eX->eX.length=vs.length
 | [],eX,hf=>by simp only[a5r,Option.some.injEq]at hf;subst hf;rfl
 |v::vs,eX,hf=>by
  simp only[a5r]at hf;split at hf
  case h_2=>cases hf
  rename_i v1 mR h1 h2;cases hf;simp[b0h h2]
theorem d33{k:Nat}(hI:∀c,I c->I' c)(hd:c4v I' I w ρ m d):∀(rs:List (List AV)) {e7:List (List AV)} {b off:Nat},a9t m d rs=some e7->VRows I w k ρ rs b off->VRows I' w k noP e7 b off
 | [],e7,b,off,hf,_=>by simp only[a9t,Option.some.injEq]at hf;subst hf;simp[VRows]
 |r::rs,e7,b,off,hf,hv=>by
  simp only[a9t]at hf;split at hf
  case h_2=>cases hf
  rename_i v1 mR h1 h2;cases hf;simp only[VRows]at hv⊢;obtain⟨h3,h4,h5⟩:=hv;exact⟨by rw[b0h h1];exact h3,c4a hI hd r h1 h4,d33 hI hd rs h2 h5⟩
def frzT(m:Nat)(d:AV->Option AV):List (List AV)->Option (List (List AV))
 | []=>some []
 |r::rs=>match a5r m true d r,frzT m d rs with
  |some r',some e7=>some (r'::e7)
  |_,_=>none
theorem c66(hI:∀c,I c->I' c)(hd:c4v I' I w ρ m d):∀(vs:List AV) {eX:List AV} {b off:Nat},a5r m true d vs=some eX->VAt I w ρ vs b off->VAt I' w (ρ.below m true) eX b off
 | [],eX,b,off,hf,_=>by simp only[a5r,Option.some.injEq]at hf;subst hf;simp[VAt]
 |v::vs,eX,b,off,hf,hv=>by
  simp only[a5r]at hf;split at hf
  case h_2=>cases hf
  rename_i v1 mR h1 h2;cases hf;simp only[VAt]at hv⊢;obtain⟨⟨c,hc,h3⟩,h4⟩:=hv;exact⟨⟨c,hc,b1y hI hd v h1 h3⟩,c66 hI hd vs h2 h4⟩
theorem c49{k:Nat}(hI:∀c,I c->I' c)(hd:c4v I' I w ρ m d):∀(rs:List (List AV)) {e7:List (List AV)} {b off:Nat},frzT m d rs=some e7->VRows I w k ρ rs b off->VRows I' w k (ρ.below m true) e7 b off
 | [],e7,b,off,hf,_=>by simp only[frzT,Option.some.injEq]at hf;subst hf;simp[VRows]
 |r::rs,e7,b,off,hf,hv=>by
  simp only[frzT]at hf;split at hf
  case h_2=>cases hf
  rename_i v1 mR h1 h2;cases hf;simp only[VRows]at hv⊢;obtain⟨h3,h4,h5⟩:=hv;exact⟨by rw[b0h h1];exact h3,c66 hI hd r h1 h4,c49 hI hd rs h2 h5⟩
theorem b0g{m:Nat}{d:AV->Option AV}:∀{rs e7:List (List AV)},frzT m d rs=some e7->e7.length=rs.length
 | [],e7,hf=>by simp only[frzT,Option.some.injEq]at hf;subst hf;rfl
 |r::rs,e7,hf=>by
  simp only[frzT]at hf;split at hf
  case h_2=>cases hf
  rename_i v1 mR h1 h2;cases hf;simp[b0g h2]
theorem b5d{m:Nat}{d:AV->Option AV}:∀{rs e7:List (List AV)},a9t m d rs=some e7->e7.length=rs.length
 | [],e7,hf=>by simp only[a9t,Option.some.injEq]at hf;subst hf;rfl
 |r::rs,e7,hf=>by
  simp only[a9t]at hf;split at hf
  case h_2=>cases hf
  rename_i v1 mR h1 h2;cases hf;simp[b5d h2]
end
end Go.Ax
/- AxFrz: a result that is frozen, with the heap that is left. -/
namespace Go.Ax
section
variable {G:GTab (List AV)}{I K:Nat->Prop}{ρ:PMap}{h:FHeap}{w:World}{m:Nat}
theorem a67(r:HRel G I K ρ h w):∀n,c4v (a41 I ρ h m) I w ρ m (a3k h m n)
 |0=>by intro b v v' c _ _ hd _;simp[a3k]at hd
 |n+1=>by
  have ih:=a67 r n;have hI:∀c,I c->a41 I ρ h m c:=λc hc=>.inl hc;intro b v v' c hv hb hd hr;rcases hv with rfl|⟨i,o,rfl⟩|⟨off,len,cap,rfl⟩
  ·simp only[a3k]at hd;split at hd
   case h_3=>cases hd
   case h_2=>rename_i ks dP;cases hd;simp only[VRel]at hr⊢;obtain⟨p,hp,rfl⟩:=hr;obtain⟨p',ik,_,_,es,cl,he,hs⟩:=r.live b _ dP;obtain rfl:p=p':=z9o (hp.symm.trans ik);exact⟨p.blk,es,cl,rfl,.inr ⟨b,_,p,hb,dP,hp,rfl⟩,he,hs⟩
   rename_i ks vs bs cl dP;split at hd
   case h_2=>cases hd
   rename_i ld eX h1 h2;cases hd;simp only[VRel]at hr⊢;obtain⟨p,hp,rfl⟩:=hr;obtain⟨p',ik,_,_,es,he,hk,gG,sr⟩:=r.live b _ dP;obtain rfl:p=p':=z9o (hp.symm.trans ik);have e1:=a8x hI ih ks h1 hk;have e2:=a8x hI ih vs h2 gG;rw[a7z]at e1 e2;exact⟨p.blk,es,rfl,.inr ⟨b,_,p,hb,dP,hp,rfl⟩,he,e1,e2,sr⟩
  ·simp only[a3k]at hd;split at hd
   case h_2=>cases hd
   rename_i k aa dP;split at hd
   case h_2=>cases hd
   rename_i rr uC;split at hd
   case h_2=>cases hd
   rename_i cs h1;cases hd;simp only[VRel]at hr⊢;obtain⟨p,hp,rfl⟩:=hr;obtain⟨p',ik,_,_,hk,_,_,aA⟩:=r.live b _ dP;obtain rfl:p=p':=z9o (hp.symm.trans ik);obtain⟨ak,bO⟩:=VRows.get i aA uC;have kE:VAt I w ρ (rr.drop o) p.blk (p.off+i*k+o):=by
    by_cases ho:o<=rr.length
    ·exact VAt.drop o ho bO
    ·rw[f9a (by omega)];simp[VAt]
   rw[hk];exact⟨p.blk,_,rfl,.inr ⟨b,_,p,hb,dP,hp,rfl⟩,c4a hI ih _ h1 kE⟩
  ·simp only[a3k]at hd;split at hd
   case h_2=>cases hd
   rename_i k aa dP;rw[cond_eq_ite]at hd;split at hd
   case isFalse=>cases hd
   rename_i cG;rw[f7k]at cG;split at hd
   case h_2=>cases hd
   rename_i rs h1;cases hd;have ak:rs.length=len:=by rw[b5d h1];simp;omega
   simp only[VRel]at hr⊢;obtain⟨a,cc,rfl,bf,aY,bM⟩:=hr;obtain⟨p',ik,_,_,hk,_,_,aA⟩:=r.live b _ dP;refine⟨a,cc,k,by rw[ak],by rw[ak];exact bf,aY,?_⟩;rcases bM with rfl|⟨p,hp,rfl,_⟩
   ·left;exact List.length_eq_zero_iff.1 (by omega)
   ·right;obtain rfl:p=p':=z9o (hp.symm.trans ik);refine⟨rfl,.inr ⟨b,_,p,hb,dP,hp,rfl⟩,?_⟩;have:=d33 hI ih _ h1 (VRows.take len (VRows.drop off (by omega) aA));rw[hk];exact this
theorem HRel.grow{I':Nat->Prop}(r:HRel G I K ρ h w)(hI:∀c,I c->I' c)(pD:∀b o m,h b=some o->ρ b=some m->¬I' m.blk)(hK:∀c,I' c->¬K c)(cj:∀c,I' c->c<w.heap.size) :
 HRel G I' K ρ h w:={
 live b o hb:=by obtain⟨m,h1,h2,h3,h4⟩:=r.live b o hb;exact⟨m,h1,pD b o m hb h1,h3,ORel.mono o hI (λ_ _=>rfl) (λ_ _ h=>h) rfl h4⟩
 inj:=r.inj
 dom:=r.dom
 imm:=cj
 kept:=r.kept
 apart:=hK
 glob g cs hg:=⟨hI _ (r.glob g cs hg).1,VAt.mono hI (λ_ _=>rfl) cs (λ_ _ h=>h) rfl (r.glob g cs hg).2⟩}
def a1p(m:Nat):Nat->Option Nat:=λb=>bif Nat.blt b m then some b else none
theorem b10(r:HRel G I K ρ h w){n:Nat}{v v':AV}{c:Value}(hf:a36 m true (a3k h m n) v=some v')(hv:VRel I w ρ v c){h':FHeap}
 (hh:∀b o',h' b=some o'->∃o,b<m∧h b=some o∧o'=a0g (a1p m) o) :
 HRel G (a41 I ρ h m) K (ρ.below m true) h' w∧VRel (a41 I ρ h m) w (ρ.below m true) v' c:=by
 have hI:∀c,I c->a41 I ρ h m c:=λc hc=>.inl hc;refine⟨?_,b1y hI (a67 r n) v hf hv⟩;have r0:HRel G I K ρ (λb=>if b<m then h b else none) w:=r.fewer (λb o hb=>by
  split at hb
  ·exact hb
  ·cases hb)
 have r1:HRel G (a41 I ρ h m) K ρ (λb=>if b<m then h b else none) w:=by
  refine r0.grow hI ?_ ?_ ?_
  ·intro b o p hb hp;split at hb
   case isFalse=>cases hb
   rename_i ai;obtain⟨p',ik,dY,_,_⟩:=r.live b o hb;obtain rfl:p=p':=z9o (hp.symm.trans ik)
   rintro(hc|⟨b',o',q,a6,eR,hq,he⟩)
   ·exact dY hc
   ·have:=r.inj b b' p q (by simp[hb]) (by simp[eR]) hp hq he.symm;omega
  ·rintro c (hc|⟨b',o',q,a6,eR,hq,rfl⟩)
   ·exact r.apart c hc
   ·obtain⟨q',jo,_,gx,_⟩:=r.live b' o' eR;obtain rfl:q=q':=z9o (hq.symm.trans jo);exact gx
  ·rintro c (hc|⟨b',o',q,a6,eR,hq,rfl⟩)
   ·exact r.imm c hc
   ·exact r.dom b' q hq
 refine r1.rename (π:=a1p m) ?_ ?_ ?_
 ·intro b b' p hp hb;simp only[a1p]at hp;rw[cond_eq_ite]at hp;split at hp
  case isFalse=>cases hp
  rename_i ai;cases hp;simp only[PMap.below];rw[f2w ⟨trivial,by simpa[f4o]using ai⟩];exact hb
 ·intro b o' hb;obtain⟨o,ai,ho,rfl⟩:=hh b o' hb;refine⟨b,o,by rw[f2w ai];exact ho,?_,rfl⟩;simp only[a1p];rw[cond_eq_ite,f2w (by simpa[f4o]using ai)]
 ·intro b p hb;simp only[PMap.below]at hb;split at hb
  ·exact r.dom b p hb
  ·cases hb
def a90(m:Nat)(d:AV->Option AV):AObj->AObj
 |.row k aa=>match frzT m d aa with
  |some bm=>.row k bm
  |none=>a0g (a1p m) (.row k aa)
 |o=>a0g (a1p m) o
theorem d7m(m:Nat)(d:AV->Option AV)(o:AObj):a90 m d o=a0g (a1p m) o∨∃k aa bm,o = .row k aa∧frzT m d aa=some bm∧a90 m d o = .row k bm:=by
 cases o with
 |row k aa=>
  cases hf:frzT m d aa with
  |none=>left;simp[a90,hf]
  |some bm=>right;exact⟨k,aa,bm,rfl,hf,by simp[a90,hf]⟩
 |_=>left;rfl
theorem c4b(r:HRel G I K ρ h w){n:Nat}{h':FHeap}(hh:∀b o',h' b=some o'->∃o,b<m∧h b=some o∧o'=a90 m (a3k h m n) o) :
 HRel G (a41 I ρ h m) K (ρ.below m true) h' w:=by
 have hI:∀c,I c->a41 I ρ h m c:=λc hc=>.inl hc;have h1:=(b10 (h':=λb=>if b<m then(h b).map (a0g (a1p m))else none) r (v:=.junk) (v':=.junk) (c:=.nilFunc) (n:=n) (m:=m) rfl (by simp[VRel]) (λb o' hb=>by
  split at hb
  case isFalse=>cases hb
  rename_i ai;cases hx:h b with
  |none=>rw[hx]at hb;cases hb
  |some o=>rw[hx]at hb;cases hb;exact⟨o,ai,rfl,rfl⟩)).1
 have low:∀b,(h' b).isSome->(if b<m then(h b).map (a0g (a1p m))else none).isSome:=by intro b hb;obtain⟨o',ho⟩:=f1j.1 hb;obtain⟨o,ai,hx,_⟩:=hh b o' ho;rw[f2w ai,hx];rfl
 refine⟨?_,λb b' p p' hb a6=>h1.inj b b' p p' (low b hb) (low b' a6),h1.dom,h1.imm,h1.kept,h1.apart,h1.glob⟩;intro b o' hb;obtain⟨o,ai,hx,rfl⟩:=hh b o' hb;obtain⟨p,hp,rE,gx,hO⟩:=h1.live b (a0g (a1p m) o) (by simp only[f2w ai,hx,f2k]);refine⟨p,hp,rE,gx,?_⟩;rcases d7m m (a3k h m n) o with e|⟨k,aa,bm,rfl,hf,e⟩
 ·rw[e];exact hO
 ·rw[e];obtain⟨p',ik,_,_,hk,hk0,⟨cI,el,mL,nK,nJ⟩,aA⟩:=r.live b _ hx;have eZ:ρ b=some p:=by
   simp only[PMap.below]at hp;rw[f2w ⟨trivial,ai⟩]at hp;exact hp
  obtain rfl:p=p':=z9o (eZ.symm.trans ik);exact⟨hk,hk0,⟨cI,el,mL,nK,by rw[b0g hf];exact nJ⟩,c49 hI (a67 r n) aa hf aA⟩
end
end Go.Ax
